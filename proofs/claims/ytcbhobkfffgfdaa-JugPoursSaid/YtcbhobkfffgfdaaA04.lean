/- A part of the proof of a law: an evaluator of the code, proved sound against the model, and contracts of functions over it. No condition. -/
import Derived.Test.YtcbhobkfffgfdaaProg
import Derived.Test.YtcbhobkfffgfdaaA03
set_option linter.unusedSimpArgs false
set_option linter.unusedVariables false
namespace Go.Ab.Jug
noncomputable section
set_option maxRecDepth 100000
def a22 : AFunc := { params := [p0, p1, p2, p3], init := i40, results := [.tmp p8, .tmp p9, .tmp p10], body := (.seq (.reg [⟨(some p8), none, .mov (.c (.slice none 0 0))⟩, ⟨(some p9), none, .mov (.c (.bool false))⟩, ⟨(some p10), none, .mov (.c (.int .i64 0))⟩] []) (.kill [p8, p9, p10] (.seq (.reg [⟨(some p17), none, .mov (.t p0)⟩, ⟨(some p18), none, .mov (.t p3)⟩, ⟨(some p19), none, .mov (.t p1)⟩, ⟨(some p20), none, .mov (.t p2)⟩, ⟨(some p21), none, .bslice 2 1 [(.slice none 0 0)] [(0, 1, (.t p19)), (1, 1, (.t p20))]⟩, ⟨(some p22), none, .call (.c (.func (.func 46) #[] #[])) [(.t p17), (.t p18), (.t p21)]⟩, ⟨(some p16), none, .mov (.t p22)⟩, ⟨(some p23), none, .ext 0 (.t p16)⟩, ⟨(some p24), none, .ext 1 (.t p16)⟩, ⟨(some p11), none, .mov (.t p23)⟩, ⟨(some p12), none, .mov (.t p24)⟩] []) (.kill [p0, p3, p16, p17, p18, p19, p20, p21, p22, p23, p24] (.seq (.seq (.reg [⟨(some p25), none, .mov (.t p12)⟩, ⟨(some p26), none, .bin .neq (.t p25) (.c (.int .i64 0))⟩] []) (.kill [p25] (.cond (.t p26) (.kill [p26] (.seq (.reg [⟨(some p27), none, .mov (.t p12)⟩, ⟨(some p8), none, .mov (.c (.slice none 0 0))⟩, ⟨(some p9), none, .mov (.c (.bool false))⟩, ⟨(some p10), none, .mov (.t p27)⟩] []) .ret)) .skip))) (.kill [p26] (.seq (.reg [⟨(some p28), none, .mov (.t p2)⟩, ⟨(some p29), none, .call (.c (.func (.func 48) #[] #[])) [(.t p28)]⟩, ⟨(some p13), none, .zero [(.int .i64 0), (.int .i64 0), (.int .i64 0), (.int .i64 0)]⟩, ⟨none, none, .st 4 (.t p13) (.t p29)⟩] []) (.kill [p2, p28, p29] (.seq (.reg [⟨(some p31), none, .mov (.t p11)⟩, ⟨(some p32), none, .mov (.t p1)⟩, ⟨(some p33), none, .call (.c (.func (.func 48) #[] #[])) [(.t p32)]⟩, ⟨(some p34), none, .clos (.func 52) [] [(.t p13)]⟩, ⟨(some p35), none, .call (.c (.func (.func 51) #[] #[])) [(.t p31), (.t p33), (.t p34)]⟩, ⟨(some p30), none, .mov (.t p35)⟩, ⟨(some p36), none, .ext 0 (.t p30)⟩, ⟨(some p37), none, .ext 1 (.t p30)⟩, ⟨(some p14), none, .mov (.t p36)⟩, ⟨(some p15), none, .mov (.t p37)⟩] []) (.kill [p1, p11, p13, p30, p31, p32, p33, p34, p35, p36, p37] (.seq (.reg [⟨(some p38), none, .mov (.t p14)⟩, ⟨(some p39), none, .mov (.t p15)⟩, ⟨(some p8), none, .mov (.t p38)⟩, ⟨(some p9), none, .mov (.t p39)⟩, ⟨(some p10), none, .mov (.c (.int .i64 0))⟩] []) .ret))))))))))) }
def a23 : AFunc := { params := [p0, p1], init := i26, results := [.tmp p4], body := (.seq (.reg [⟨(some p4), none, .mov (.c (.int .i64 0))⟩] []) (.kill [p4] (.seq (.reg [⟨(some p5), none, .mov (.c (.int .i64 0))⟩] []) (.seq (.seq (.reg [⟨(some p6), none, .mov (.c (.int .i64 0))⟩] []) (.block 0 (.loop (.seq (.seq (.reg [⟨(some p7), none, .mov (.t p6)⟩, ⟨(some p8), none, .mov (.t p1)⟩, ⟨(some p9), none, .len 1 (.t p8)⟩, ⟨(some p10), none, .bin .lss (.t p7) (.t p9)⟩] []) (.kill [p7, p8, p9] (.cond (.t p10) .skip (.exit 0)))) (.kill [p10] (.seq (.block 1 (.reg [⟨(some p13), none, .mov (.t p5)⟩, ⟨(some p14), none, .mov (.t p0)⟩, ⟨(some p15), none, .mov (.t p6)⟩, ⟨(some p16), none, .ias 1 (.t p14) (.t p15)⟩, ⟨(some p17), none, .ld none (.t p16)⟩, ⟨(some p18), none, .bin .add (.t p17) (.c (.int .i64 1))⟩, ⟨(some p19), none, .bin .mul (.t p13) (.t p18)⟩, ⟨(some p20), none, .mov (.t p1)⟩, ⟨(some p21), none, .mov (.t p6)⟩, ⟨(some p22), none, .ias 1 (.t p20) (.t p21)⟩, ⟨(some p23), none, .ld none (.t p22)⟩, ⟨(some p24), none, .bin .add (.t p19) (.t p23)⟩, ⟨(some p5), none, .mov (.t p24)⟩] [])) (.kill [p13, p14, p15, p16, p17, p18, p19, p20, p21, p22, p23, p24] (.reg [⟨(some p11), none, .mov (.t p6)⟩, ⟨(some p12), none, .bin .add (.t p11) (.c (.int .i64 1))⟩, ⟨(some p6), none, .mov (.t p12)⟩] [])))))))) (.kill [p0, p1, p6, p10] (.seq (.reg [⟨(some p25), none, .mov (.t p5)⟩, ⟨(some p4), none, .mov (.t p25)⟩] []) .ret)))))) }
def a24 : AFunc := { params := [p0, p1, p2, p3, p4], init := i53, results := [.tmp p10], body := (.seq (.reg [⟨(some p10), none, .mov (.c (.bool false))⟩] []) (.kill [p10] (.seq (.seq (.reg [⟨(some p11), none, .mov (.c (.int .i64 0))⟩] []) (.block 0 (.loop (.seq (.seq (.reg [⟨(some p14), none, .mov (.t p11)⟩, ⟨(some p15), none, .mov (.t p3)⟩, ⟨(some p16), none, .len 1 (.t p15)⟩, ⟨(some p17), none, .bin .lss (.t p14) (.t p16)⟩] []) (.kill [p14, p15, p16] (.cond (.t p17) .skip (.exit 0)))) (.kill [p17] (.seq (.block 1 (.seq (.reg [⟨(some p20), none, .mov (.t p4)⟩, ⟨(some p21), none, .mov (.t p20)⟩, ⟨(some p22), (some (p21, true)), .mov (.t p3)⟩, ⟨(some p23), (some (p21, true)), .mov (.t p11)⟩, ⟨(some p24), (some (p21, true)), .ias 2 (.t p22) (.t p23)⟩, ⟨(some p25), (some (p21, true)), .iad 2 1 (.t p24) (.c (.int .i64 0))⟩, ⟨(some p26), (some (p21, true)), .ld none (.t p25)⟩, ⟨(some p27), (some (p21, true)), .bin .eql (.t p26) (.c (.int .i64 (-1)))⟩, ⟨(some p28), (some (p21, true)), .mov (.t p27)⟩, ⟨(some p29), (some (p28, false)), .mov (.t p3)⟩, ⟨(some p30), (some (p28, false)), .mov (.t p11)⟩, ⟨(some p31), (some (p28, false)), .ias 2 (.t p29) (.t p30)⟩, ⟨(some p32), (some (p28, false)), .iad 2 1 (.t p31) (.c (.int .i64 1))⟩, ⟨(some p33), (some (p28, false)), .ld none (.t p32)⟩, ⟨(some p34), (some (p28, false)), .bin .eql (.t p33) (.c (.int .i64 (-1)))⟩, ⟨(some p35), (some (p21, true)), .pick (.t p28) (.c (.bool true)) (.t p34)⟩, ⟨(some p36), none, .pick (.t p21) (.t p35) (.c (.bool false))⟩] []) (.kill [p20, p21, p22, p23, p24, p25, p26, p27, p28, p29, p30, p31, p32, p33, p34, p35] (.cond (.t p36) (.kill [p36] (.seq (.reg [⟨(some p10), none, .mov (.c (.bool false))⟩] []) .ret)) .skip)))) (.kill [p36] (.reg [⟨(some p18), none, .mov (.t p11)⟩, ⟨(some p19), none, .bin .add (.t p18) (.c (.int .i64 1))⟩, ⟨(some p11), none, .mov (.t p19)⟩] [])))))))) (.kill [p4, p11, p17] (.seq (.reg [⟨(some p38), none, .mov (.t p0)⟩, ⟨(some p39), none, .mov (.t p1)⟩, ⟨(some p40), none, .mov (.t p3)⟩, ⟨(some p41), none, .call (.c (.func (.func 35) #[] #[])) [(.t p38), (.t p39), (.t p40)]⟩, ⟨(some p37), none, .mov (.t p41)⟩, ⟨(some p42), none, .ext 0 (.t p37)⟩, ⟨(some p43), none, .ext 1 (.t p37)⟩, ⟨(some p12), none, .mov (.t p42)⟩, ⟨(some p13), none, .mov (.t p43)⟩] []) (.kill [p0, p1, p37, p38, p39, p40, p41, p42, p43] (.seq (.reg [⟨(some p44), none, .mov (.t p13)⟩, ⟨(some p45), none, .mov (.t p3)⟩, ⟨(some p46), none, .len 1 (.t p45)⟩, ⟨(some p47), none, .bin .eql (.t p44) (.t p46)⟩, ⟨(some p48), none, .mov (.t p47)⟩, ⟨(some p49), (some (p48, true)), .mov (.t p12)⟩, ⟨(some p50), (some (p48, true)), .mov (.t p2)⟩, ⟨(some p51), (some (p48, true)), .call (.c (.func (.func 33) #[] #[])) [(.t p49), (.t p50)]⟩, ⟨(some p52), none, .pick (.t p48) (.t p51) (.c (.bool false))⟩, ⟨(some p10), none, .mov (.t p52)⟩] []) .ret))))))) }
def a25 : AFunc := { params := [p0, p1, p2], init := i34, results := [.tmp p6, .tmp p7, .tmp p8], body := (.seq (.reg [⟨(some p6), none, .mov (.c (.int .i64 0))⟩, ⟨(some p7), none, .mov (.c (.bool false))⟩, ⟨(some p8), none, .mov (.c (.int .i64 0))⟩] []) (.kill [p6, p7, p8] (.seq (.reg [⟨(some p12), none, .mov (.t p0)⟩, ⟨(some p13), none, .mov (.t p1)⟩, ⟨(some p14), none, .mov (.t p2)⟩, ⟨(some p15), none, .call (.c (.func (.func 53) #[] #[])) [(.t p12), (.t p13), (.t p14)]⟩, ⟨(some p11), none, .mov (.t p15)⟩, ⟨(some p16), none, .ext 0 (.t p11)⟩, ⟨(some p17), none, .ext 1 (.t p11)⟩, ⟨(some p9), none, .mov (.t p16)⟩, ⟨(some p10), none, .mov (.t p17)⟩] []) (.kill [p11, p12, p13, p14, p15, p16, p17] (.seq (.seq (.reg [⟨(some p18), none, .mov (.t p9)⟩, ⟨(some p19), none, .un .not (.t p18)⟩] []) (.kill [p9, p18] (.cond (.t p19) (.kill [p19] (.seq (.reg [⟨(some p20), none, .mov (.t p10)⟩, ⟨(some p6), none, .mov (.c (.int .i64 0))⟩, ⟨(some p7), none, .mov (.c (.bool false))⟩, ⟨(some p8), none, .mov (.t p20)⟩] []) .ret)) .skip))) (.kill [p19] (.seq (.reg [⟨(some p21), none, .mov (.t p0)⟩, ⟨(some p22), none, .mov (.t p1)⟩, ⟨(some p23), none, .call (.c (.func (.func 54) #[] #[])) [(.t p21), (.t p22), (.c (.bool true))]⟩, ⟨(some p24), none, .mov (.t p2)⟩, ⟨(some p25), none, .call (.c (.func (.func 55) #[] #[])) [(.t p23), (.t p24)]⟩, ⟨(some p26), none, .len 1 (.t p25)⟩, ⟨(some p27), none, .mov (.t p0)⟩, ⟨(some p28), none, .mov (.t p1)⟩, ⟨(some p29), none, .call (.c (.func (.func 54) #[] #[])) [(.t p27), (.t p28), (.c (.bool false))]⟩, ⟨(some p30), none, .mov (.t p2)⟩, ⟨(some p31), none, .call (.c (.func (.func 55) #[] #[])) [(.t p29), (.t p30)]⟩, ⟨(some p32), none, .len 1 (.t p31)⟩, ⟨(some p33), none, .min (.t p26) [(.t p32)]⟩, ⟨(some p6), none, .mov (.t p33)⟩, ⟨(some p7), none, .mov (.c (.bool true))⟩, ⟨(some p8), none, .mov (.c (.int .i64 0))⟩] []) .ret))))))) }
def a26 : AFunc := { params := [p0, p1, p2, p3], init := i29, results := [.tmp p8, .tmp p9, .tmp p10], body := (.seq (.reg [⟨(some p8), none, .mov (.c (.slice none 0 0))⟩, ⟨(some p9), none, .mov (.c (.bool false))⟩, ⟨(some p10), none, .mov (.c (.int .i64 0))⟩] []) (.kill [p8, p9, p10] (.seq (.reg [⟨(some p14), none, .mov (.t p0)⟩, ⟨(some p15), none, .mov (.t p1)⟩, ⟨(some p16), none, .mov (.t p2)⟩, ⟨(some p17), none, .call (.c (.func (.func 53) #[] #[])) [(.t p14), (.t p15), (.t p16)]⟩, ⟨(some p13), none, .mov (.t p17)⟩, ⟨(some p18), none, .ext 0 (.t p13)⟩, ⟨(some p19), none, .ext 1 (.t p13)⟩, ⟨(some p11), none, .mov (.t p18)⟩, ⟨(some p12), none, .mov (.t p19)⟩] []) (.kill [p13, p14, p15, p16, p17, p18, p19] (.seq (.seq (.reg [⟨(some p20), none, .mov (.t p11)⟩, ⟨(some p21), none, .un .not (.t p20)⟩] []) (.kill [p11, p20] (.cond (.t p21) (.kill [p21] (.seq (.reg [⟨(some p22), none, .mov (.t p12)⟩, ⟨(some p8), none, .mov (.c (.slice none 0 0))⟩, ⟨(some p9), none, .mov (.c (.bool false))⟩, ⟨(some p10), none, .mov (.t p22)⟩] []) .ret)) .skip))) (.kill [p21] (.seq (.reg [⟨(some p23), none, .mov (.t p0)⟩, ⟨(some p24), none, .mov (.t p1)⟩, ⟨(some p25), none, .mov (.t p3)⟩, ⟨(some p26), none, .call (.c (.func (.func 54) #[] #[])) [(.t p23), (.t p24), (.t p25)]⟩, ⟨(some p27), none, .mov (.t p2)⟩, ⟨(some p28), none, .call (.c (.func (.func 55) #[] #[])) [(.t p26), (.t p27)]⟩, ⟨(some p8), none, .mov (.t p28)⟩, ⟨(some p9), none, .mov (.c (.bool true))⟩, ⟨(some p10), none, .mov (.c (.int .i64 0))⟩] []) .ret))))))) }
def a27 : AFunc := { params := [p0, p1, p2], init := i13, results := [.tmp p6], body := (.seq (.reg [⟨(some p6), none, .mov (.c (.bool false))⟩] []) (.kill [p6] (.seq (.reg [⟨(some p7), none, .mov (.t p2)⟩, ⟨(some p8), none, .mov (.t p0)⟩, ⟨(some p9), none, .mov (.t p1)⟩, ⟨(some p10), none, .call (.c (.func (.func 56) #[] #[])) [(.t p8), (.t p9)]⟩, ⟨(some p11), none, .bin .rem (.t p7) (.t p10)⟩, ⟨(some p12), none, .bin .eql (.t p11) (.c (.int .i64 0))⟩, ⟨(some p6), none, .mov (.t p12)⟩] []) .ret))) }
def a28 : AFunc := { params := [p0, p1, p2, p3], init := i58, results := [.tmp p8], body := (.seq (.reg [⟨(some p8), none, .mov (.c (.slice none 0 0))⟩] []) (.kill [p8] (.seq (.reg [⟨(some p9), none, .mov (.c (.int .i64 0))⟩, ⟨(some p10), none, .mov (.c (.int .i64 1))⟩] []) (.seq (.seq (.reg [⟨(some p15), none, .mov (.t p3)⟩, ⟨(some p16), none, .un .not (.t p15)⟩] []) (.kill [p3, p15] (.cond (.t p16) (.kill [p16] (.seq (.reg [⟨(some p9), none, .mov (.c (.int .i64 1))⟩] []) (.reg [⟨(some p10), none, .mov (.c (.int .i64 0))⟩] []))) .skip))) (.kill [p16] (.seq (.reg [⟨(some p17), none, .mov (.t p0)⟩, ⟨(some p18), none, .mov (.t p1)⟩, ⟨(some p19), none, .bslice 2 1 [(.int .i64 0)] [(0, 1, (.t p17)), (1, 1, (.t p18))]⟩, ⟨(some p11), none, .mov (.t p19)⟩] []) (.kill [p0, p1, p17, p18, p19] (.seq (.reg [⟨(some p20), none, .bslice 2 1 [(.int .i64 0)] [(0, 1, (.c (.int .i64 0))), (1, 1, (.c (.int .i64 0)))]⟩, ⟨(some p12), none, .mov (.t p20)⟩] []) (.kill [p20] (.seq (.reg [⟨(some p13), none, .mov (.c (.slice none 0 0))⟩] []) (.seq (.block 0 (.loop (.seq (.seq (.reg [⟨(some p21), none, .mov (.t p12)⟩, ⟨(some p22), none, .mov (.t p2)⟩, ⟨(some p23), none, .call (.c (.func (.func 36) #[] #[])) [(.t p21), (.t p22)]⟩, ⟨(some p24), none, .un .not (.t p23)⟩] []) (.kill [p21, p22, p23] (.cond (.t p24) .skip (.exit 0)))) (.kill [p24] (.block 1 (.seq (.reg [⟨(some p25), none, .mov (.t p9)⟩, ⟨(some p26), none, .mov (.t p10)⟩, ⟨(some p27), none, .build [(.int .i64 0), (.int .i64 0)] [(0, 1, (.t p25)), (1, 1, (.t p26))]⟩, ⟨(some p14), none, .zero [(.int .i64 0), (.int .i64 0)]⟩, ⟨none, none, .st 2 (.t p14) (.t p27)⟩] []) (.kill [p25, p26, p27] (.seq (.seq (.reg [⟨(some p28), none, .mov (.t p12)⟩, ⟨(some p29), none, .mov (.t p10)⟩, ⟨(some p30), none, .ias 1 (.t p28) (.t p29)⟩, ⟨(some p31), none, .ld none (.t p30)⟩, ⟨(some p32), none, .mov (.t p11)⟩, ⟨(some p33), none, .mov (.t p10)⟩, ⟨(some p34), none, .ias 1 (.t p32) (.t p33)⟩, ⟨(some p35), none, .ld none (.t p34)⟩, ⟨(some p36), none, .bin .eql (.t p31) (.t p35)⟩] []) (.kill [p28, p29, p30, p31, p32, p33, p34, p35] (.cond (.t p36) (.kill [p36] (.reg [⟨(some p37), none, .mov (.t p10)⟩, ⟨(some p38), none, .build [(.int .i64 0), (.int .i64 0)] [(0, 1, (.t p37)), (1, 1, (.c (.int .i64 (-1))))]⟩, ⟨none, none, .st 2 (.t p14) (.t p38)⟩] [])) (.kill [p36] (.seq (.reg [⟨(some p39), none, .mov (.t p12)⟩, ⟨(some p40), none, .mov (.t p9)⟩, ⟨(some p41), none, .ias 1 (.t p39) (.t p40)⟩, ⟨(some p42), none, .ld none (.t p41)⟩, ⟨(some p43), none, .bin .eql (.t p42) (.c (.int .i64 0))⟩] []) (.kill [p39, p40, p41, p42] (.cond (.t p43) (.kill [p43] (.reg [⟨(some p44), none, .mov (.t p9)⟩, ⟨(some p45), none, .build [(.int .i64 0), (.int .i64 0)] [(0, 1, (.c (.int .i64 (-1)))), (1, 1, (.t p44))]⟩, ⟨none, none, .st 2 (.t p14) (.t p45)⟩] [])) .skip))))))) (.kill [p36, p37, p38, p43, p44, p45] (.seq (.reg [⟨(some p47), none, .mov (.t p11)⟩, ⟨(some p48), none, .mov (.t p12)⟩, ⟨(some p49), none, .ld (some 2) (.t p14)⟩, ⟨(some p50), none, .call (.c (.func (.func 49) #[] #[])) [(.t p47), (.t p48), (.t p49)]⟩, ⟨(some p46), none, .mov (.t p50)⟩, ⟨(some p51), none, .ext 0 (.t p46)⟩, ⟨(some p52), none, .ext 1 (.t p46)⟩, ⟨(some p12), none, .mov (.t p51)⟩] []) (.kill [p46, p47, p48, p49, p50, p51, p52] (.reg [⟨(some p53), none, .mov (.t p13)⟩, ⟨(some p54), none, .ld (some 2) (.t p14)⟩, ⟨(some p55), none, .bslice 1 2 [(.int .i64 0), (.int .i64 0)] [(0, 2, (.t p54))]⟩, ⟨(some p56), none, .app 2 (.t p53) (.t p55)⟩, ⟨(some p13), none, .mov (.t p56)⟩] [])))))))))))) (.kill [p2, p9, p10, p11, p12, p24] (.seq (.reg [⟨(some p57), none, .mov (.t p13)⟩, ⟨(some p8), none, .mov (.t p57)⟩] []) .ret))))))))))))) }
def a29 : AFunc := { params := [p0, p1], init := i26, results := [.tmp p4], body := (.seq (.reg [⟨(some p4), none, .mov (.c (.bool false))⟩] []) (.kill [p4] (.seq (.seq (.reg [⟨(some p6), none, .mov (.t p0)⟩, ⟨(some p7), none, .len 1 (.t p6)⟩, ⟨(some p8), none, .mov (.t p1)⟩, ⟨(some p9), none, .len 1 (.t p8)⟩, ⟨(some p10), none, .bin .neq (.t p7) (.t p9)⟩] []) (.kill [p6, p7, p8, p9] (.cond (.t p10) (.kill [p10] (.seq (.reg [⟨(some p4), none, .mov (.c (.bool false))⟩] []) .ret)) .skip))) (.kill [p10] (.seq (.seq (.reg [⟨(some p5), none, .mov (.c (.int .i64 0))⟩] []) (.block 0 (.loop (.seq (.seq (.reg [⟨(some p11), none, .mov (.t p5)⟩, ⟨(some p12), none, .mov (.t p0)⟩, ⟨(some p13), none, .len 1 (.t p12)⟩, ⟨(some p14), none, .bin .lss (.t p11) (.t p13)⟩] []) (.kill [p11, p12, p13] (.cond (.t p14) .skip (.exit 0)))) (.kill [p14] (.seq (.block 1 (.seq (.reg [⟨(some p17), none, .mov (.t p0)⟩, ⟨(some p18), none, .mov (.t p5)⟩, ⟨(some p19), none, .ias 2 (.t p17) (.t p18)⟩, ⟨(some p20), none, .ld (some 2) (.t p19)⟩, ⟨(some p21), none, .mov (.t p1)⟩, ⟨(some p22), none, .mov (.t p5)⟩, ⟨(some p23), none, .ias 2 (.t p21) (.t p22)⟩, ⟨(some p24), none, .ld (some 2) (.t p23)⟩, ⟨(some p25), none, .eqs (.cells [.int, .int]) true (.t p20) (.t p24)⟩] []) (.kill [p17, p18, p19, p20, p21, p22, p23, p24] (.cond (.t p25) (.kill [p25] (.seq (.reg [⟨(some p4), none, .mov (.c (.bool false))⟩] []) .ret)) .skip)))) (.kill [p25] (.reg [⟨(some p15), none, .mov (.t p5)⟩, ⟨(some p16), none, .bin .add (.t p15) (.c (.int .i64 1))⟩, ⟨(some p5), none, .mov (.t p16)⟩] [])))))))) (.kill [p0, p1, p5, p14] (.seq (.reg [⟨(some p4), none, .mov (.c (.bool true))⟩] []) .ret))))))) }
def a30 : AFunc := { params := [p0], init := i25, results := [.tmp p2, .tmp p3], body := (.seq (.reg [⟨(some p2), none, .mov (.c (.slice none 0 0))⟩, ⟨(some p3), none, .mov (.c (.int .i64 0))⟩] []) (.kill [p2, p3] (.seq (.seq (.reg [⟨(some p7), none, .mov (.t p0)⟩, ⟨(some p8), none, .call (.c (.func (.func 43) #[] #[])) [(.t p7)]⟩, ⟨(some p4), none, .mov (.t p8)⟩] []) (.kill [p7, p8] (.seq (.reg [⟨(some p9), none, .mov (.t p4)⟩, ⟨(some p10), none, .bin .neq (.t p9) (.c (.int .i64 0))⟩] []) (.kill [p9] (.cond (.t p10) (.kill [p10] (.seq (.reg [⟨(some p11), none, .mov (.t p4)⟩, ⟨(some p2), none, .mov (.c (.slice none 0 0))⟩, ⟨(some p3), none, .mov (.t p11)⟩] []) .ret)) .skip))))) (.kill [p10] (.seq (.reg [⟨(some p5), none, .mov (.c (.slice none 0 0))⟩] []) (.seq (.seq (.reg [⟨(some p6), none, .mov (.c (.int .i64 0))⟩] []) (.block 0 (.loop (.seq (.seq (.reg [⟨(some p12), none, .mov (.t p6)⟩, ⟨(some p13), none, .mov (.t p0)⟩, ⟨(some p14), none, .call (.c (.func (.func 57) #[] #[])) [(.t p13)]⟩, ⟨(some p15), none, .bin .leq (.t p12) (.t p14)⟩] []) (.kill [p12, p13, p14] (.cond (.t p15) .skip (.exit 0)))) (.kill [p15] (.seq (.block 1 (.reg [⟨(some p20), none, .mov (.t p5)⟩, ⟨(some p21), none, .mov (.t p6)⟩, ⟨(some p22), none, .bslice 1 1 [(.int .i64 0)] [(0, 1, (.t p21))]⟩, ⟨(some p23), none, .app 1 (.t p20) (.t p22)⟩, ⟨(some p5), none, .mov (.t p23)⟩] [])) (.kill [p20, p21, p22, p23] (.reg [⟨(some p16), none, .mov (.t p6)⟩, ⟨(some p17), none, .mov (.t p0)⟩, ⟨(some p18), none, .call (.c (.func (.func 58) #[] #[])) [(.t p17)]⟩, ⟨(some p19), none, .bin .add (.t p16) (.t p18)⟩, ⟨(some p6), none, .mov (.t p19)⟩] [])))))))) (.kill [p0, p6, p15] (.seq (.reg [⟨(some p24), none, .mov (.t p5)⟩, ⟨(some p2), none, .mov (.t p24)⟩, ⟨(some p3), none, .mov (.c (.int .i64 0))⟩] []) .ret)))))))) }
def a31 : AFunc := { params := [p0, p1], init := i21, results := [.tmp p4, .tmp p5, .tmp p6], body := (.seq (.reg [⟨(some p4), none, .mov (.c (.int .i64 0))⟩, ⟨(some p5), none, .mov (.c (.bool false))⟩, ⟨(some p6), none, .mov (.c (.int .i64 0))⟩] []) (.kill [p4, p5, p6] (.seq (.reg [⟨(some p11), none, .mov (.t p0)⟩, ⟨(some p12), none, .mov (.t p1)⟩, ⟨(some p13), none, .call (.c (.func (.func 59) #[] #[])) [(.t p11), (.t p12)]⟩, ⟨(some p10), none, .mov (.t p13)⟩, ⟨(some p14), none, .ext 0 (.t p10)⟩, ⟨(some p15), none, .ext 1 (.t p10)⟩, ⟨(some p16), none, .ext 2 (.t p10)⟩, ⟨(some p7), none, .mov (.t p14)⟩, ⟨(some p8), none, .mov (.t p15)⟩, ⟨(some p9), none, .mov (.t p16)⟩] []) (.kill [p0, p1, p10, p11, p12, p13, p14, p15, p16] (.seq (.reg [⟨(some p17), none, .mov (.t p7)⟩, ⟨(some p18), none, .len 1 (.t p17)⟩, ⟨(some p19), none, .mov (.t p8)⟩, ⟨(some p20), none, .mov (.t p9)⟩, ⟨(some p4), none, .mov (.t p18)⟩, ⟨(some p5), none, .mov (.t p19)⟩, ⟨(some p6), none, .mov (.t p20)⟩] []) .ret))))) }
def a32 : AFunc := { params := [p0], init := i68, results := [.tmp p2], body := (.seq (.reg [⟨(some p2), none, .mov (.c (.slice none 0 0))⟩] []) (.kill [p2] (.seq (.reg [⟨(some p11), none, .mov (.t p0)⟩, ⟨(some p12), none, .mov (.t p0)⟩, ⟨(some p13), none, .len 1 (.t p12)⟩, ⟨(some p14), none, .mks 1 8 [(.int .i64 0)] (.t p13) (.t p13)⟩, ⟨(some p15), none, .call (.c (.func (.func 21) #[] #[])) [(.t p11), (.t p14), (.c (.bool false))]⟩, ⟨(some p10), none, .mov (.t p15)⟩, ⟨(some p16), none, .ext 0 (.t p10)⟩, ⟨(some p17), none, .ext 1 (.t p10)⟩, ⟨(some p3), none, .mov (.t p16)⟩, ⟨(some p4), none, .mov (.t p17)⟩] []) (.kill [p10, p11, p12, p13, p14, p15, p16, p17] (.seq (.reg [⟨(some p18), none, .mks 1 8 [(.int .i64 0)] (.c (.int .i64 13)) (.c (.int .i64 13))⟩, ⟨(some p5), none, .mov (.t p18)⟩] []) (.kill [p18] (.seq (.seq (.reg [⟨(some p6), none, .mov (.c (.int .i64 0))⟩] []) (.block 0 (.loop (.seq (.seq (.reg [⟨(some p19), none, .mov (.t p6)⟩, ⟨(some p20), none, .mov (.t p5)⟩, ⟨(some p21), none, .len 1 (.t p20)⟩, ⟨(some p22), none, .bin .lss (.t p19) (.t p21)⟩] []) (.kill [p19, p20, p21] (.cond (.t p22) .skip (.exit 0)))) (.kill [p22] (.seq (.block 1 (.reg [⟨(some p25), none, .mov (.t p5)⟩, ⟨(some p26), none, .mov (.t p6)⟩, ⟨(some p27), none, .ias 1 (.t p25) (.t p26)⟩, ⟨none, none, .st 1 (.t p27) (.c (.int .i64 (-1)))⟩] [])) (.kill [p25, p26, p27] (.reg [⟨(some p23), none, .mov (.t p6)⟩, ⟨(some p24), none, .bin .add (.t p23) (.c (.int .i64 1))⟩, ⟨(some p6), none, .mov (.t p24)⟩] [])))))))) (.kill [p6, p22] (.seq (.seq (.reg [⟨(some p7), none, .mov (.c (.int .i64 0))⟩] []) (.block 2 (.loop (.seq (.seq (.reg [⟨(some p28), none, .mov (.t p7)⟩, ⟨(some p29), none, .mov (.t p4)⟩, ⟨(some p30), none, .len 1 (.t p29)⟩, ⟨(some p31), none, .bin .lss (.t p28) (.t p30)⟩] []) (.kill [p28, p29, p30] (.cond (.t p31) .skip (.exit 2)))) (.kill [p31] (.seq (.block 3 (.seq (.reg [⟨(some p8), none, .mov (.c (.int .i64 0))⟩] []) (.block 4 (.loop (.seq (.seq (.reg [⟨(some p34), none, .mov (.t p8)⟩, ⟨(some p35), none, .mov (.t p4)⟩, ⟨(some p36), none, .mov (.t p7)⟩, ⟨(some p37), none, .ias 1 (.t p35) (.t p36)⟩, ⟨(some p38), none, .ld none (.t p37)⟩, ⟨(some p39), none, .len 1 (.t p38)⟩, ⟨(some p40), none, .bin .lss (.t p34) (.t p39)⟩] []) (.kill [p34, p35, p36, p37, p38, p39] (.cond (.t p40) .skip (.exit 4)))) (.kill [p40] (.seq (.block 5 (.seq (.reg [⟨(some p43), none, .mov (.t p4)⟩, ⟨(some p44), none, .mov (.t p7)⟩, ⟨(some p45), none, .ias 1 (.t p43) (.t p44)⟩, ⟨(some p46), none, .ld none (.t p45)⟩, ⟨(some p47), none, .mov (.t p8)⟩, ⟨(some p48), none, .ias 1 (.t p46) (.t p47)⟩, ⟨(some p49), none, .ld none (.t p48)⟩, ⟨(some p9), none, .mov (.t p49)⟩] []) (.kill [p43, p44, p45, p46, p47, p48, p49] (.seq (.reg [⟨(some p50), none, .mov (.t p5)⟩, ⟨(some p51), none, .mov (.t p9)⟩, ⟨(some p52), none, .ias 1 (.t p50) (.t p51)⟩, ⟨(some p53), none, .ld none (.t p52)⟩, ⟨(some p54), none, .bin .lss (.t p53) (.c (.int .i64 0))⟩] []) (.kill [p50, p51, p52, p53] (.cond (.t p54) (.kill [p54] (.reg [⟨(some p55), none, .mov (.t p5)⟩, ⟨(some p56), none, .mov (.t p9)⟩, ⟨(some p57), none, .mov (.t p3)⟩, ⟨(some p58), none, .mov (.t p0)⟩, ⟨(some p59), none, .mov (.t p4)⟩, ⟨(some p60), none, .mov (.t p7)⟩, ⟨(some p61), none, .ias 1 (.t p59) (.t p60)⟩, ⟨(some p62), none, .ld none (.t p61)⟩, ⟨(some p63), none, .call (.c (.func (.func 23) #[] #[])) [(.t p58), (.t p62)]⟩, ⟨(some p64), none, .ias 1 (.t p57) (.t p63)⟩, ⟨(some p65), none, .ld none (.t p64)⟩, ⟨(some p66), none, .ias 1 (.t p55) (.t p56)⟩, ⟨none, none, .st 1 (.t p66) (.t p65)⟩] [])) .skip)))))) (.kill [p9, p54, p55, p56, p57, p58, p59, p60, p61, p62, p63, p64, p65, p66] (.reg [⟨(some p41), none, .mov (.t p8)⟩, ⟨(some p42), none, .bin .add (.t p41) (.c (.int .i64 1))⟩, ⟨(some p8), none, .mov (.t p42)⟩] []))))))))) (.kill [p8, p40] (.reg [⟨(some p32), none, .mov (.t p7)⟩, ⟨(some p33), none, .bin .add (.t p32) (.c (.int .i64 1))⟩, ⟨(some p7), none, .mov (.t p33)⟩] [])))))))) (.kill [p0, p3, p4, p7, p31, p40] (.seq (.reg [⟨(some p67), none, .mov (.t p5)⟩, ⟨(some p2), none, .mov (.t p67)⟩] []) .ret))))))))))) }
def a33 : AFunc := { params := [p0, p1], init := i26, results := [.tmp p4], body := (.seq (.reg [⟨(some p4), none, .mov (.c (.bool false))⟩] []) (.kill [p4] (.seq (.seq (.reg [⟨(some p6), none, .mov (.t p0)⟩, ⟨(some p7), none, .len 1 (.t p6)⟩, ⟨(some p8), none, .mov (.t p1)⟩, ⟨(some p9), none, .len 1 (.t p8)⟩, ⟨(some p10), none, .bin .neq (.t p7) (.t p9)⟩] []) (.kill [p6, p7, p8, p9] (.cond (.t p10) (.kill [p10] (.seq (.reg [⟨(some p4), none, .mov (.c (.bool false))⟩] []) .ret)) .skip))) (.kill [p10] (.seq (.seq (.reg [⟨(some p5), none, .mov (.c (.int .i64 0))⟩] []) (.block 0 (.loop (.seq (.seq (.reg [⟨(some p11), none, .mov (.t p5)⟩, ⟨(some p12), none, .mov (.t p0)⟩, ⟨(some p13), none, .len 1 (.t p12)⟩, ⟨(some p14), none, .bin .lss (.t p11) (.t p13)⟩] []) (.kill [p11, p12, p13] (.cond (.t p14) .skip (.exit 0)))) (.kill [p14] (.seq (.block 1 (.seq (.reg [⟨(some p17), none, .mov (.t p0)⟩, ⟨(some p18), none, .mov (.t p5)⟩, ⟨(some p19), none, .ias 1 (.t p17) (.t p18)⟩, ⟨(some p20), none, .ld none (.t p19)⟩, ⟨(some p21), none, .mov (.t p1)⟩, ⟨(some p22), none, .mov (.t p5)⟩, ⟨(some p23), none, .ias 1 (.t p21) (.t p22)⟩, ⟨(some p24), none, .ld none (.t p23)⟩, ⟨(some p25), none, .bin .neq (.t p20) (.t p24)⟩] []) (.kill [p17, p18, p19, p20, p21, p22, p23, p24] (.cond (.t p25) (.kill [p25] (.seq (.reg [⟨(some p4), none, .mov (.c (.bool false))⟩] []) .ret)) .skip)))) (.kill [p25] (.reg [⟨(some p15), none, .mov (.t p5)⟩, ⟨(some p16), none, .bin .add (.t p15) (.c (.int .i64 1))⟩, ⟨(some p5), none, .mov (.t p16)⟩] [])))))))) (.kill [p0, p1, p5, p14] (.seq (.reg [⟨(some p4), none, .mov (.c (.bool true))⟩] []) .ret))))))) }
def a34 : AFunc := { params := [p0, p1], init := i13, results := [.tmp p4, .tmp p5, .tmp p6], body := (.seq (.reg [⟨(some p4), none, .mov (.c (.slice none 0 0))⟩, ⟨(some p5), none, .mov (.c (.bool false))⟩, ⟨(some p6), none, .mov (.c (.int .i64 0))⟩] []) (.kill [p4, p5, p6] (.seq (.reg [⟨(some p7), none, .mov (.t p0)⟩, ⟨(some p8), none, .mov (.t p1)⟩, ⟨(some p9), none, .call (.c (.func (.func 59) #[] #[])) [(.t p7), (.t p8)]⟩, ⟨(some p10), none, .ext 0 (.t p9)⟩, ⟨(some p11), none, .ext 1 (.t p9)⟩, ⟨(some p12), none, .ext 2 (.t p9)⟩, ⟨(some p4), none, .mov (.t p10)⟩, ⟨(some p5), none, .mov (.t p11)⟩, ⟨(some p6), none, .mov (.t p12)⟩] []) .ret))) }
def a35 : AFunc := { params := [p0, p1, p2], init := i35, results := [.tmp p6, .tmp p7], body := (.seq (.reg [⟨(some p6), none, .mov (.c (.slice none 0 0))⟩, ⟨(some p7), none, .mov (.c (.int .i64 0))⟩] []) (.kill [p6, p7] (.seq (.seq (.reg [⟨(some p8), none, .mov (.c (.int .i64 0))⟩] []) (.block 0 (.loop (.seq (.seq (.reg [⟨(some p11), none, .mov (.t p8)⟩, ⟨(some p12), none, .mov (.t p2)⟩, ⟨(some p13), none, .len 1 (.t p12)⟩, ⟨(some p14), none, .bin .lss (.t p11) (.t p13)⟩] []) (.kill [p11, p12, p13] (.cond (.t p14) .skip (.exit 0)))) (.kill [p14] (.seq (.block 1 (.seq (.reg [⟨(some p18), none, .mov (.t p0)⟩, ⟨(some p19), none, .mov (.t p1)⟩, ⟨(some p20), none, .mov (.t p2)⟩, ⟨(some p21), none, .mov (.t p8)⟩, ⟨(some p22), none, .ias 2 (.t p20) (.t p21)⟩, ⟨(some p23), none, .ld (some 2) (.t p22)⟩, ⟨(some p24), none, .call (.c (.func (.func 49) #[] #[])) [(.t p18), (.t p19), (.t p23)]⟩, ⟨(some p17), none, .mov (.t p24)⟩, ⟨(some p25), none, .ext 0 (.t p17)⟩, ⟨(some p26), none, .ext 1 (.t p17)⟩, ⟨(some p9), none, .mov (.t p25)⟩, ⟨(some p10), none, .mov (.t p26)⟩] []) (.kill [p17, p18, p19, p20, p21, p22, p23, p24, p25, p26] (.seq (.seq (.reg [⟨(some p27), none, .mov (.t p10)⟩, ⟨(some p28), none, .un .not (.t p27)⟩] []) (.kill [p10, p27] (.cond (.t p28) (.kill [p28] (.seq (.reg [⟨(some p29), none, .mov (.t p1)⟩, ⟨(some p30), none, .mov (.t p8)⟩, ⟨(some p6), none, .mov (.t p29)⟩, ⟨(some p7), none, .mov (.t p30)⟩] []) .ret)) .skip))) (.kill [p28] (.reg [⟨(some p31), none, .mov (.t p9)⟩, ⟨(some p1), none, .mov (.t p31)⟩] [])))))) (.kill [p9, p31] (.reg [⟨(some p15), none, .mov (.t p8)⟩, ⟨(some p16), none, .bin .add (.t p15) (.c (.int .i64 1))⟩, ⟨(some p8), none, .mov (.t p16)⟩] [])))))))) (.kill [p0, p8, p14] (.seq (.reg [⟨(some p32), none, .mov (.t p1)⟩, ⟨(some p33), none, .mov (.t p2)⟩, ⟨(some p34), none, .len 1 (.t p33)⟩, ⟨(some p6), none, .mov (.t p32)⟩, ⟨(some p7), none, .mov (.t p34)⟩] []) .ret))))) }
def a36 : AFunc := { params := [p0, p1], init := i18, results := [.tmp p4], body := (.seq (.reg [⟨(some p4), none, .mov (.c (.bool false))⟩] []) (.kill [p4] (.seq (.seq (.reg [⟨(some p5), none, .mov (.c (.int .i64 0))⟩] []) (.block 0 (.loop (.seq (.seq (.reg [⟨(some p6), none, .mov (.t p5)⟩, ⟨(some p7), none, .mov (.t p0)⟩, ⟨(some p8), none, .len 1 (.t p7)⟩, ⟨(some p9), none, .bin .lss (.t p6) (.t p8)⟩] []) (.kill [p6, p7, p8] (.cond (.t p9) .skip (.exit 0)))) (.kill [p9] (.seq (.block 1 (.seq (.reg [⟨(some p12), none, .mov (.t p0)⟩, ⟨(some p13), none, .mov (.t p5)⟩, ⟨(some p14), none, .ias 1 (.t p12) (.t p13)⟩, ⟨(some p15), none, .ld none (.t p14)⟩, ⟨(some p16), none, .mov (.t p1)⟩, ⟨(some p17), none, .bin .eql (.t p15) (.t p16)⟩] []) (.kill [p12, p13, p14, p15, p16] (.cond (.t p17) (.kill [p17] (.seq (.reg [⟨(some p4), none, .mov (.c (.bool true))⟩] []) .ret)) .skip)))) (.kill [p17] (.reg [⟨(some p10), none, .mov (.t p5)⟩, ⟨(some p11), none, .bin .add (.t p10) (.c (.int .i64 1))⟩, ⟨(some p5), none, .mov (.t p11)⟩] [])))))))) (.kill [p0, p1, p5, p9] (.seq (.reg [⟨(some p4), none, .mov (.c (.bool false))⟩] []) .ret))))) }
def a37 : AFunc := { params := [p0, p1, p2], init := i46, results := [.tmp p6, .tmp p7], body := (.seq (.reg [⟨(some p6), none, .mov (.c (.bool false))⟩, ⟨(some p7), none, .mov (.c (.int .i64 0))⟩] []) (.kill [p6, p7] (.seq (.seq (.reg [⟨(some p17), none, .mov (.t p0)⟩, ⟨(some p18), none, .mov (.t p1)⟩, ⟨(some p19), none, .mov (.t p2)⟩, ⟨(some p20), none, .bslice 2 1 [(.slice none 0 0)] [(0, 1, (.t p18)), (1, 1, (.t p19))]⟩, ⟨(some p21), none, .call (.c (.func (.func 46) #[] #[])) [(.t p17), (.c (.bool false)), (.t p20)]⟩, ⟨(some p16), none, .mov (.t p21)⟩, ⟨(some p22), none, .ext 0 (.t p16)⟩, ⟨(some p23), none, .ext 1 (.t p16)⟩, ⟨(some p8), none, .mov (.t p22)⟩, ⟨(some p9), none, .mov (.t p23)⟩] []) (.kill [p8, p16, p17, p18, p19, p20, p21, p22, p23] (.seq (.reg [⟨(some p24), none, .mov (.t p9)⟩, ⟨(some p25), none, .bin .neq (.t p24) (.c (.int .i64 0))⟩] []) (.kill [p24] (.cond (.t p25) (.kill [p25] (.seq (.reg [⟨(some p26), none, .mov (.t p9)⟩, ⟨(some p6), none, .mov (.c (.bool false))⟩, ⟨(some p7), none, .mov (.t p26)⟩] []) .ret)) .skip))))) (.kill [p25] (.seq (.seq (.reg [⟨(some p28), none, .mov (.t p0)⟩, ⟨(some p29), none, .mov (.t p1)⟩, ⟨(some p30), none, .mov (.t p2)⟩, ⟨(some p31), none, .call (.c (.func (.func 22) #[] #[])) [(.t p28), (.t p29), (.t p30), (.c (.bool false))]⟩, ⟨(some p27), none, .mov (.t p31)⟩, ⟨(some p32), none, .ext 0 (.t p27)⟩, ⟨(some p33), none, .ext 1 (.t p27)⟩, ⟨(some p34), none, .ext 2 (.t p27)⟩, ⟨(some p10), none, .mov (.t p32)⟩, ⟨(some p11), none, .mov (.t p33)⟩, ⟨(some p12), none, .mov (.t p34)⟩] []) (.kill [p10, p12, p27, p28, p29, p30, p31, p32, p33, p34] (.seq (.reg [⟨(some p35), none, .mov (.t p11)⟩, ⟨(some p36), none, .un .not (.t p35)⟩] []) (.kill [p11, p35] (.cond (.t p36) (.kill [p36] (.seq (.reg [⟨(some p6), none, .mov (.c (.bool false))⟩, ⟨(some p7), none, .mov (.c (.int .i64 1))⟩] []) .ret)) .skip))))) (.kill [p36] (.seq (.reg [⟨(some p38), none, .mov (.t p0)⟩, ⟨(some p39), none, .mov (.t p2)⟩, ⟨(some p40), none, .mov (.t p1)⟩, ⟨(some p41), none, .call (.c (.func (.func 22) #[] #[])) [(.t p38), (.t p39), (.t p40), (.c (.bool false))]⟩, ⟨(some p37), none, .mov (.t p41)⟩, ⟨(some p42), none, .ext 0 (.t p37)⟩, ⟨(some p43), none, .ext 1 (.t p37)⟩, ⟨(some p44), none, .ext 2 (.t p37)⟩, ⟨(some p13), none, .mov (.t p42)⟩, ⟨(some p14), none, .mov (.t p43)⟩, ⟨(some p15), none, .mov (.t p44)⟩] []) (.kill [p0, p1, p2, p13, p15, p37, p38, p39, p40, p41, p42, p43, p44] (.seq (.reg [⟨(some p45), none, .mov (.t p14)⟩, ⟨(some p6), none, .mov (.t p45)⟩, ⟨(some p7), none, .mov (.c (.int .i64 0))⟩] []) .ret))))))))) }
def a38 : AFunc := { params := [p0, p1, p2], init := i26, results := [.tmp p6, .tmp p7], body := (.seq (.reg [⟨(some p6), none, .mov (.c (.int .i64 0))⟩, ⟨(some p7), none, .mov (.c (.int .i64 0))⟩] []) (.kill [p6, p7] (.seq (.reg [⟨(some p11), none, .mov (.t p0)⟩, ⟨(some p12), none, .mov (.t p2)⟩, ⟨(some p13), none, .mov (.t p1)⟩, ⟨(some p14), none, .bslice 1 1 [(.slice none 0 0)] [(0, 1, (.t p13))]⟩, ⟨(some p15), none, .call (.c (.func (.func 46) #[] #[])) [(.t p11), (.t p12), (.t p14)]⟩, ⟨(some p10), none, .mov (.t p15)⟩, ⟨(some p16), none, .ext 0 (.t p10)⟩, ⟨(some p17), none, .ext 1 (.t p10)⟩, ⟨(some p8), none, .mov (.t p16)⟩, ⟨(some p9), none, .mov (.t p17)⟩] []) (.kill [p0, p2, p10, p11, p12, p13, p14, p15, p16, p17] (.seq (.seq (.reg [⟨(some p18), none, .mov (.t p9)⟩, ⟨(some p19), none, .bin .neq (.t p18) (.c (.int .i64 0))⟩] []) (.kill [p18] (.cond (.t p19) (.kill [p19] (.seq (.reg [⟨(some p20), none, .mov (.t p9)⟩, ⟨(some p6), none, .mov (.c (.int .i64 0))⟩, ⟨(some p7), none, .mov (.t p20)⟩] []) .ret)) .skip))) (.kill [p19] (.seq (.reg [⟨(some p21), none, .mov (.t p8)⟩, ⟨(some p22), none, .mov (.t p1)⟩, ⟨(some p23), none, .call (.c (.func (.func 48) #[] #[])) [(.t p22)]⟩, ⟨(some p24), none, .call (.c (.func (.func 60) #[] #[])) [(.t p21), (.t p23)]⟩, ⟨(some p25), none, .len 2 (.t p24)⟩, ⟨(some p6), none, .mov (.t p25)⟩, ⟨(some p7), none, .mov (.c (.int .i64 0))⟩] []) .ret))))))) }
def a39 : AFunc := { params := [p0, p1, p2], init := i38, results := [.tmp p6, .tmp p7], body := (.seq (.reg [⟨(some p6), none, .mov (.c (.int .i64 0))⟩, ⟨(some p7), none, .mov (.c (.int .i64 0))⟩] []) (.kill [p6, p7] (.seq (.reg [⟨(some p14), none, .mov (.t p0)⟩, ⟨(some p15), none, .mov (.t p2)⟩, ⟨(some p16), none, .mov (.t p1)⟩, ⟨(some p17), none, .bslice 1 1 [(.slice none 0 0)] [(0, 1, (.t p16))]⟩, ⟨(some p18), none, .call (.c (.func (.func 46) #[] #[])) [(.t p14), (.t p15), (.t p17)]⟩, ⟨(some p13), none, .mov (.t p18)⟩, ⟨(some p19), none, .ext 0 (.t p13)⟩, ⟨(some p20), none, .ext 1 (.t p13)⟩, ⟨(some p8), none, .mov (.t p19)⟩, ⟨(some p9), none, .mov (.t p20)⟩] []) (.kill [p0, p2, p13, p14, p15, p16, p17, p18, p19, p20] (.seq (.seq (.reg [⟨(some p21), none, .mov (.t p9)⟩, ⟨(some p22), none, .bin .neq (.t p21) (.c (.int .i64 0))⟩] []) (.kill [p21] (.cond (.t p22) (.kill [p22] (.seq (.reg [⟨(some p23), none, .mov (.t p9)⟩, ⟨(some p6), none, .mov (.c (.int .i64 0))⟩, ⟨(some p7), none, .mov (.t p23)⟩] []) .ret)) .skip))) (.kill [p22] (.seq (.reg [⟨(some p10), none, .mov (.c (.int .i64 0))⟩] []) (.seq (.seq (.reg [⟨(some p24), none, .mov (.t p8)⟩, ⟨(some p25), none, .mov (.t p1)⟩, ⟨(some p26), none, .call (.c (.func (.func 48) #[] #[])) [(.t p25)]⟩, ⟨(some p27), none, .call (.c (.func (.func 60) #[] #[])) [(.t p24), (.t p26)]⟩, ⟨(some p28), none, .bad⟩] []) (.kill [p1, p8, p24, p25, p26, p27] (.block 0 (.loop (.seq (.reg [⟨(some p29), none, .bad⟩, ⟨(some p30), none, .ext 0 (.t p29)⟩] []) (.kill [p29] (.seq (.cond (.t p30) .skip (.exit 0)) (.kill [p30] (.block 1 (.seq (.reg [⟨(some p31), none, .bad⟩, ⟨(some p32), none, .ext 1 (.t p31)⟩, ⟨(some p12), none, .zero [(.int .i64 0), (.int .i64 0), (.int .i64 0), (.int .i64 0), (.int .i64 0), (.int .i64 0), (.int .i64 0)]⟩, ⟨none, none, .st 7 (.t p12) (.t p32)⟩] []) (.kill [p31, p32] (.reg [⟨(some p33), none, .mov (.t p10)⟩, ⟨(some p34), none, .fad 6 (.t p12)⟩, ⟨(some p35), none, .ld none (.t p34)⟩, ⟨(some p36), none, .max (.t p33) [(.t p35)]⟩, ⟨(some p10), none, .mov (.t p36)⟩] [])))))))))))) (.kill [p28, p30] (.seq (.reg [⟨(some p37), none, .mov (.t p10)⟩, ⟨(some p6), none, .mov (.t p37)⟩, ⟨(some p7), none, .mov (.c (.int .i64 0))⟩] []) .ret)))))))))) }
def a40 : AFunc := { params := [p0, p1, p2], init := i60, results := [.tmp p6, .tmp p7, .tmp p8], body := (.seq (.reg [⟨(some p6), none, .mov (.c (.slice none 0 0))⟩, ⟨(some p7), none, .mov (.c (.int .i64 0))⟩, ⟨(some p8), none, .mov (.c (.int .i64 0))⟩] []) (.kill [p6, p7, p8] (.seq (.reg [⟨(some p18), none, .mov (.t p0)⟩, ⟨(some p19), none, .mov (.t p1)⟩, ⟨(some p20), none, .bslice 1 1 [(.slice none 0 0)] [(0, 1, (.t p19))]⟩, ⟨(some p21), none, .call (.c (.func (.func 46) #[] #[])) [(.t p18), (.c (.bool false)), (.t p20)]⟩, ⟨(some p17), none, .mov (.t p21)⟩, ⟨(some p22), none, .ext 0 (.t p17)⟩, ⟨(some p23), none, .ext 1 (.t p17)⟩, ⟨(some p9), none, .mov (.t p22)⟩, ⟨(some p10), none, .mov (.t p23)⟩] []) (.kill [p0, p17, p18, p19, p20, p21, p22, p23] (.seq (.seq (.reg [⟨(some p24), none, .mov (.t p10)⟩, ⟨(some p25), none, .bin .neq (.t p24) (.c (.int .i64 0))⟩] []) (.kill [p24] (.cond (.t p25) (.kill [p25] (.seq (.reg [⟨(some p26), none, .mov (.t p10)⟩, ⟨(some p6), none, .mov (.c (.slice none 0 0))⟩, ⟨(some p7), none, .mov (.c (.int .i64 0))⟩, ⟨(some p8), none, .mov (.t p26)⟩] []) .ret)) .skip))) (.kill [p25] (.seq (.reg [⟨(some p27), none, .mov (.t p1)⟩, ⟨(some p28), none, .call (.c (.func (.func 48) #[] #[])) [(.t p27)]⟩, ⟨(some p11), none, .zero [(.int .i64 0), (.int .i64 0), (.int .i64 0), (.int .i64 0)]⟩, ⟨none, none, .st 4 (.t p11) (.t p28)⟩, ⟨(some p12), none, .mov (.c (.int .i64 0))⟩] []) (.kill [p1, p27, p28] (.seq (.seq (.reg [⟨(some p29), none, .mov (.t p2)⟩, ⟨(some p30), none, .len 1 (.t p29)⟩, ⟨(some p31), none, .mov (.c (.int .i64 0))⟩] []) (.kill [p2] (.block 0 (.loop (.seq (.reg [⟨(some p32), none, .bin .lss (.t p31) (.t p30)⟩] []) (.seq (.cond (.t p32) .skip (.exit 0)) (.kill [p32] (.seq (.block 1 (.seq (.reg [⟨(some p33), none, .ias 2 (.t p29) (.t p31)⟩, ⟨(some p34), none, .ld (some 2) (.t p33)⟩, ⟨(some p14), none, .zero [(.int .i64 0), (.int .i64 0)]⟩, ⟨none, none, .st 2 (.t p14) (.t p34)⟩] []) (.kill [p33, p34] (.seq (.reg [⟨(some p35), none, .iad 2 1 (.t p14) (.c (.int .i64 0))⟩, ⟨(some p36), none, .ld none (.t p35)⟩, ⟨(some p37), none, .iad 2 1 (.t p14) (.c (.int .i64 1))⟩, ⟨(some p38), none, .ld none (.t p37)⟩, ⟨(some p39), none, .build [(.int .i64 0), (.int .i64 0)] [(0, 1, (.t p36)), (1, 1, (.t p38))]⟩, ⟨(some p15), none, .zero [(.int .i64 0), (.int .i64 0)]⟩, ⟨none, none, .st 2 (.t p15) (.t p39)⟩] []) (.kill [p14, p35, p36, p37, p38, p39] (.seq (.seq (.reg [⟨(some p40), none, .ld (some 2) (.t p15)⟩, ⟨(some p41), none, .mov (.t p9)⟩, ⟨(some p42), none, .call (.c (.func (.func 61) #[] #[])) [(.t p40), (.t p41)]⟩, ⟨(some p43), none, .un .not (.t p42)⟩] []) (.kill [p40, p41, p42] (.cond (.t p43) (.exit 0) .skip))) (.kill [p43] (.seq (.reg [⟨(some p44), none, .ld (some 2) (.t p15)⟩, ⟨(some p45), none, .clos (.func 62) [(.t p44)] []⟩, ⟨(some p16), none, .mov (.t p45)⟩] []) (.kill [p15, p44, p45] (.seq (.reg [⟨(some p46), none, .mov (.t p16)⟩, ⟨(some p47), none, .mov (.t p9)⟩, ⟨(some p48), none, .ld (some 4) (.t p11)⟩, ⟨(some p49), none, .call (.t p46) [(.t p47), (.t p48)]⟩, ⟨none, none, .st 4 (.t p11) (.t p49)⟩] []) (.kill [p16, p46, p47, p48, p49] (.reg [⟨(some p50), none, .mov (.t p12)⟩, ⟨(some p51), none, .bin .add (.t p50) (.c (.int .i64 1))⟩, ⟨(some p12), none, .mov (.t p51)⟩] [])))))))))))) (.kill [p50, p51] (.reg [⟨(some p52), none, .bin .add (.t p31) (.c (.int .i64 1))⟩, ⟨(some p31), none, .mov (.t p52)⟩] [])))))))))) (.kill [p29, p30, p31, p32, p43] (.seq (.reg [⟨(some p53), none, .mov (.t p9)⟩, ⟨(some p54), none, .nilchk (.t p53)⟩, ⟨(some p55), none, .fad 0 (.t p54)⟩, ⟨(some p56), none, .ld none (.t p55)⟩, ⟨(some p57), none, .slarr 4 1 (.t p11) none (some (.t p56)) none⟩, ⟨(some p58), none, .call (.c (.func (.func 63) #[] #[])) [(.t p57)]⟩, ⟨(some p59), none, .mov (.t p12)⟩, ⟨(some p6), none, .mov (.t p58)⟩, ⟨(some p7), none, .mov (.t p59)⟩, ⟨(some p8), none, .mov (.c (.int .i64 0))⟩] []) .ret))))))))))) }
def a41 : AFunc := { params := [p0, p1], init := i14, results := [.tmp p4], body := (.seq (.reg [⟨(some p4), none, .mov (.c (.slice none 0 0))⟩] []) (.kill [p4] (.seq (.reg [⟨(some p5), none, .mov (.c (.slice none 0 0))⟩] []) (.seq (.reg [⟨(some p6), none, .mov (.t p5)⟩, ⟨(some p7), none, .mov (.t p0)⟩, ⟨(some p8), none, .mov (.t p0)⟩, ⟨(some p9), none, .len 1 (.t p8)⟩, ⟨(some p10), none, .mov (.t p1)⟩, ⟨(some p11), none, .min (.t p9) [(.t p10)]⟩, ⟨(some p12), none, .slsl 1 (.t p7) none (some (.t p11)) none⟩, ⟨(some p13), none, .app 1 (.t p6) (.t p12)⟩, ⟨(some p4), none, .mov (.t p13)⟩] []) .ret)))) }
def a42 : AFunc := { params := [p0], init := i30, results := [.tmp p2], body := (.seq (.reg [⟨(some p2), none, .mov (.c (.bool false))⟩] []) (.kill [p2] (.seq (.seq (.reg [⟨(some p3), none, .mov (.c (.int .i64 0))⟩] []) (.block 0 (.loop (.seq (.seq (.reg [⟨(some p4), none, .mov (.t p3)⟩, ⟨(some p5), none, .mov (.t p0)⟩, ⟨(some p6), none, .len 1 (.t p5)⟩, ⟨(some p7), none, .bin .lss (.t p4) (.t p6)⟩] []) (.kill [p4, p5, p6] (.cond (.t p7) .skip (.exit 0)))) (.kill [p7] (.seq (.block 1 (.seq (.reg [⟨(some p10), none, .mov (.t p0)⟩, ⟨(some p11), none, .mov (.t p3)⟩, ⟨(some p12), none, .ias 1 (.t p10) (.t p11)⟩, ⟨(some p13), none, .ld none (.t p12)⟩, ⟨(some p14), none, .bin .lss (.t p13) (.c (.int .i64 1))⟩, ⟨(some p15), none, .mov (.t p14)⟩, ⟨(some p16), (some (p15, false)), .mov (.t p0)⟩, ⟨(some p17), (some (p15, false)), .mov (.t p3)⟩, ⟨(some p18), (some (p15, false)), .ias 1 (.t p16) (.t p17)⟩, ⟨(some p19), (some (p15, false)), .ld none (.t p18)⟩, ⟨(some p20), (some (p15, false)), .bin .gtr (.t p19) (.c (.int .i64 12))⟩, ⟨(some p21), none, .pick (.t p15) (.c (.bool true)) (.t p20)⟩] []) (.kill [p10, p11, p12, p13, p14, p15, p16, p17, p18, p19, p20] (.cond (.t p21) (.kill [p21] (.seq (.reg [⟨(some p2), none, .mov (.c (.bool false))⟩] []) .ret)) .skip)))) (.kill [p21] (.reg [⟨(some p8), none, .mov (.t p3)⟩, ⟨(some p9), none, .bin .add (.t p8) (.c (.int .i64 1))⟩, ⟨(some p3), none, .mov (.t p9)⟩] [])))))))) (.kill [p3, p7] (.seq (.reg [⟨(some p22), none, .mov (.t p0)⟩, ⟨(some p23), none, .len 1 (.t p22)⟩, ⟨(some p24), none, .bin .geq (.t p23) (.c (.int .i64 1))⟩, ⟨(some p25), none, .mov (.t p24)⟩, ⟨(some p26), (some (p25, true)), .mov (.t p0)⟩, ⟨(some p27), (some (p25, true)), .len 1 (.t p26)⟩, ⟨(some p28), (some (p25, true)), .bin .leq (.t p27) (.c (.int .i64 4))⟩, ⟨(some p29), none, .pick (.t p25) (.t p28) (.c (.bool false))⟩, ⟨(some p2), none, .mov (.t p29)⟩] []) .ret))))) }
def a43 : AFunc := { params := [p0], init := i21, results := [.tmp p2], body := (.seq (.reg [⟨(some p2), none, .mov (.c (.int .i64 0))⟩] []) (.kill [p2] (.seq (.seq (.reg [⟨(some p3), none, .mov (.t p0)⟩, ⟨(some p4), none, .len 1 (.t p3)⟩, ⟨(some p5), none, .bin .lss (.t p4) (.c (.int .i64 1))⟩, ⟨(some p6), none, .mov (.t p5)⟩, ⟨(some p7), (some (p6, false)), .mov (.t p0)⟩, ⟨(some p8), (some (p6, false)), .len 1 (.t p7)⟩, ⟨(some p9), (some (p6, false)), .bin .gtr (.t p8) (.c (.int .i64 4))⟩, ⟨(some p10), none, .pick (.t p6) (.c (.bool true)) (.t p9)⟩, ⟨(some p11), none, .mov (.t p10)⟩, ⟨(some p12), (some (p11, false)), .mov (.t p0)⟩, ⟨(some p13), (some (p11, false)), .call (.c (.func (.func 64) #[] #[])) [(.t p12)]⟩, ⟨(some p14), (some (p11, false)), .bin .lss (.t p13) (.c (.int .i64 1))⟩, ⟨(some p15), none, .pick (.t p11) (.c (.bool true)) (.t p14)⟩, ⟨(some p16), none, .mov (.t p15)⟩, ⟨(some p17), (some (p16, false)), .mov (.t p0)⟩, ⟨(some p18), (some (p16, false)), .call (.c (.func (.func 57) #[] #[])) [(.t p17)]⟩, ⟨(some p19), (some (p16, false)), .bin .gtr (.t p18) (.c (.int .i64 12))⟩, ⟨(some p20), none, .pick (.t p16) (.c (.bool true)) (.t p19)⟩] []) (.kill [p0, p3, p4, p5, p6, p7, p8, p9, p10, p11, p12, p13, p14, p15, p16, p17, p18, p19] (.cond (.t p20) (.kill [p20] (.seq (.reg [⟨(some p2), none, .mov (.c (.int .i64 20))⟩] []) .ret)) .skip))) (.kill [p20] (.seq (.reg [⟨(some p2), none, .mov (.c (.int .i64 0))⟩] []) .ret))))) }
def a44 : AFunc := { params := [p0, p1], init := i33, results := [.tmp p4], body := (.seq (.reg [⟨(some p4), none, .mov (.c (.bool false))⟩] []) (.kill [p4] (.seq (.seq (.reg [⟨(some p6), none, .mov (.t p1)⟩, ⟨(some p7), none, .len 1 (.t p6)⟩, ⟨(some p8), none, .mov (.t p0)⟩, ⟨(some p9), none, .len 1 (.t p8)⟩, ⟨(some p10), none, .bin .neq (.t p7) (.t p9)⟩] []) (.kill [p6, p7, p8, p9] (.cond (.t p10) (.kill [p10] (.seq (.reg [⟨(some p4), none, .mov (.c (.bool false))⟩] []) .ret)) .skip))) (.kill [p10] (.seq (.seq (.reg [⟨(some p5), none, .mov (.c (.int .i64 0))⟩] []) (.block 0 (.loop (.seq (.seq (.reg [⟨(some p11), none, .mov (.t p5)⟩, ⟨(some p12), none, .mov (.t p1)⟩, ⟨(some p13), none, .len 1 (.t p12)⟩, ⟨(some p14), none, .bin .lss (.t p11) (.t p13)⟩] []) (.kill [p11, p12, p13] (.cond (.t p14) .skip (.exit 0)))) (.kill [p14] (.seq (.block 1 (.seq (.reg [⟨(some p17), none, .mov (.t p1)⟩, ⟨(some p18), none, .mov (.t p5)⟩, ⟨(some p19), none, .ias 1 (.t p17) (.t p18)⟩, ⟨(some p20), none, .ld none (.t p19)⟩, ⟨(some p21), none, .bin .lss (.t p20) (.c (.int .i64 0))⟩, ⟨(some p22), none, .mov (.t p21)⟩, ⟨(some p23), (some (p22, false)), .mov (.t p1)⟩, ⟨(some p24), (some (p22, false)), .mov (.t p5)⟩, ⟨(some p25), (some (p22, false)), .ias 1 (.t p23) (.t p24)⟩, ⟨(some p26), (some (p22, false)), .ld none (.t p25)⟩, ⟨(some p27), (some (p22, false)), .mov (.t p0)⟩, ⟨(some p28), (some (p22, false)), .mov (.t p5)⟩, ⟨(some p29), (some (p22, false)), .ias 1 (.t p27) (.t p28)⟩, ⟨(some p30), (some (p22, false)), .ld none (.t p29)⟩, ⟨(some p31), (some (p22, false)), .bin .gtr (.t p26) (.t p30)⟩, ⟨(some p32), none, .pick (.t p22) (.c (.bool true)) (.t p31)⟩] []) (.kill [p17, p18, p19, p20, p21, p22, p23, p24, p25, p26, p27, p28, p29, p30, p31] (.cond (.t p32) (.kill [p32] (.seq (.reg [⟨(some p4), none, .mov (.c (.bool false))⟩] []) .ret)) .skip)))) (.kill [p32] (.reg [⟨(some p15), none, .mov (.t p5)⟩, ⟨(some p16), none, .bin .add (.t p15) (.c (.int .i64 1))⟩, ⟨(some p5), none, .mov (.t p16)⟩] [])))))))) (.kill [p0, p1, p5, p14] (.seq (.reg [⟨(some p4), none, .mov (.c (.bool true))⟩] []) .ret))))))) }
def a45 : AFunc := { params := [p0, p1], init := i15, results := [.tmp p4], body := (.seq (.reg [⟨(some p4), none, .mov (.c (.int .i64 0))⟩] []) (.kill [p4] (.seq (.reg [⟨(some p8), none, .mov (.t p0)⟩, ⟨(some p9), none, .mov (.t p1)⟩, ⟨(some p10), none, .bslice 1 1 [(.slice none 0 0)] [(0, 1, (.t p9))]⟩, ⟨(some p11), none, .call (.c (.func (.func 46) #[] #[])) [(.t p8), (.c (.bool false)), (.t p10)]⟩, ⟨(some p7), none, .mov (.t p11)⟩, ⟨(some p12), none, .ext 0 (.t p7)⟩, ⟨(some p13), none, .ext 1 (.t p7)⟩, ⟨(some p5), none, .mov (.t p12)⟩, ⟨(some p6), none, .mov (.t p13)⟩] []) (.kill [p0, p1, p5, p7, p8, p9, p10, p11, p12, p13] (.seq (.reg [⟨(some p14), none, .mov (.t p6)⟩, ⟨(some p4), none, .mov (.t p14)⟩] []) .ret))))) }
def a46 : AFunc := { params := [p0, p1, p2], init := i63, results := [.tmp p6, .tmp p7], body := (.seq (.reg [⟨(some p6), none, .mov (.c (.pointer none))⟩, ⟨(some p7), none, .mov (.c (.int .i64 0))⟩] []) (.kill [p6, p7] (.seq (.seq (.reg [⟨(some p14), none, .mov (.t p0)⟩, ⟨(some p15), none, .call (.c (.func (.func 43) #[] #[])) [(.t p14)]⟩, ⟨(some p8), none, .mov (.t p15)⟩] []) (.kill [p14, p15] (.seq (.reg [⟨(some p16), none, .mov (.t p8)⟩, ⟨(some p17), none, .bin .neq (.t p16) (.c (.int .i64 0))⟩] []) (.kill [p16] (.cond (.t p17) (.kill [p17] (.seq (.reg [⟨(some p18), none, .mov (.t p8)⟩, ⟨(some p6), none, .mov (.c (.pointer none))⟩, ⟨(some p7), none, .mov (.t p18)⟩] []) .ret)) .skip))))) (.kill [p17] (.seq (.reg [⟨(some p19), none, .mov (.t p0)⟩, ⟨(some p20), none, .len 1 (.t p19)⟩, ⟨(some p21), none, .mov (.t p1)⟩, ⟨(some p22), none, .build [(.int .i64 0), (.int .i64 0), (.int .i64 0), (.int .i64 0), (.int .i64 0), (.bool false)] [(0, 1, (.t p20)), (5, 1, (.t p21))]⟩, ⟨(some p23), none, .box (.t p22)⟩, ⟨(some p9), none, .mov (.t p23)⟩] []) (.kill [p1, p19, p20, p21, p22, p23] (.seq (.reg [⟨(some p24), none, .mov (.t p9)⟩, ⟨(some p25), none, .nilchk (.t p24)⟩, ⟨(some p26), none, .fad 1 (.t p25)⟩, ⟨(some p27), none, .slarr 4 1 (.t p26) none none none⟩, ⟨(some p28), none, .mov (.t p0)⟩, ⟨(some p29), none, .cpy 1 (.t p27) (.t p28)⟩] []) (.kill [p24, p25, p26, p27, p28, p29] (.seq (.seq (.reg [⟨(some p30), none, .mov (.t p2)⟩, ⟨(some p31), none, .len 1 (.t p30)⟩, ⟨(some p32), none, .mov (.c (.int .i64 0))⟩] []) (.kill [p2] (.block 0 (.loop (.seq (.reg [⟨(some p33), none, .bin .lss (.t p32) (.t p31)⟩] []) (.seq (.cond (.t p33) .skip (.exit 0)) (.kill [p33] (.seq (.block 1 (.seq (.reg [⟨(some p34), none, .ias 1 (.t p30) (.t p32)⟩, ⟨(some p35), none, .ld none (.t p34)⟩, ⟨(some p11), none, .mov (.t p35)⟩] []) (.kill [p34, p35] (.seq (.seq (.reg [⟨(some p36), none, .mov (.t p11)⟩, ⟨(some p37), none, .len 1 (.t p36)⟩, ⟨(some p38), none, .mov (.t p9)⟩, ⟨(some p39), none, .nilchk (.t p38)⟩, ⟨(some p40), none, .fad 0 (.t p39)⟩, ⟨(some p41), none, .ld none (.t p40)⟩, ⟨(some p42), none, .bin .neq (.t p37) (.t p41)⟩] []) (.kill [p36, p37, p38, p39, p40, p41] (.cond (.t p42) (.kill [p42] (.seq (.reg [⟨(some p6), none, .mov (.c (.pointer none))⟩, ⟨(some p7), none, .mov (.c (.int .i64 1))⟩] []) .ret)) .skip))) (.kill [p42] (.seq (.reg [⟨(some p43), none, .mov (.t p11)⟩, ⟨(some p44), none, .len 1 (.t p43)⟩, ⟨(some p45), none, .mov (.c (.int .i64 0))⟩] []) (.kill [p11] (.block 2 (.loop (.seq (.reg [⟨(some p46), none, .bin .lss (.t p45) (.t p44)⟩] []) (.seq (.cond (.t p46) .skip (.exit 2)) (.kill [p46] (.seq (.block 3 (.seq (.reg [⟨(some p47), none, .mov (.t p45)⟩, ⟨(some p48), none, .ias 1 (.t p43) (.t p45)⟩, ⟨(some p49), none, .ld none (.t p48)⟩, ⟨(some p12), none, .mov (.t p47)⟩, ⟨(some p13), none, .mov (.t p49)⟩] []) (.kill [p47, p48, p49] (.seq (.reg [⟨(some p50), none, .mov (.t p13)⟩, ⟨(some p51), none, .bin .lss (.t p50) (.c (.int .i64 0))⟩, ⟨(some p52), none, .mov (.t p51)⟩, ⟨(some p53), (some (p52, false)), .mov (.t p13)⟩, ⟨(some p54), (some (p52, false)), .mov (.t p0)⟩, ⟨(some p55), (some (p52, false)), .mov (.t p12)⟩, ⟨(some p56), (some (p52, false)), .ias 1 (.t p54) (.t p55)⟩, ⟨(some p57), (some (p52, false)), .ld none (.t p56)⟩, ⟨(some p58), (some (p52, false)), .bin .gtr (.t p53) (.t p57)⟩, ⟨(some p59), none, .pick (.t p52) (.c (.bool true)) (.t p58)⟩] []) (.kill [p12, p13, p50, p51, p52, p53, p54, p55, p56, p57, p58] (.cond (.t p59) (.kill [p59] (.seq (.reg [⟨(some p6), none, .mov (.c (.pointer none))⟩, ⟨(some p7), none, .mov (.c (.int .i64 1))⟩] []) .ret)) .skip)))))) (.kill [p59] (.reg [⟨(some p60), none, .bin .add (.t p45) (.c (.int .i64 1))⟩, ⟨(some p45), none, .mov (.t p60)⟩] []))))))))))))))) (.kill [p43, p44, p45, p46] (.reg [⟨(some p61), none, .bin .add (.t p32) (.c (.int .i64 1))⟩, ⟨(some p32), none, .mov (.t p61)⟩] [])))))))))) (.kill [p0, p30, p31, p32, p33, p46] (.seq (.reg [⟨(some p62), none, .mov (.t p9)⟩, ⟨(some p6), none, .mov (.t p62)⟩, ⟨(some p7), none, .mov (.c (.int .i64 0))⟩] []) .ret))))))))))) }
def a47 : AFunc := { params := [p0, p1], init := i6, results := [.tmp p4], body := (.seq (.reg [⟨(some p2), none, .box (.t p0)⟩, ⟨(some p3), none, .box (.t p1)⟩, ⟨(some p4), none, .mov (.c .nilFunc)⟩] []) (.kill [p0, p1, p4] (.seq (.reg [⟨(some p5), none, .clos (.func 65) [] [(.t p2), (.t p3)]⟩, ⟨(some p4), none, .mov (.t p5)⟩] []) .ret))) }
def a48 : AFunc := { params := [p0], init := i8, results := [.cell (some 4) p2], body := (.seq (.reg [⟨(some p2), none, .zero [(.int .i64 0), (.int .i64 0), (.int .i64 0), (.int .i64 0)]⟩] []) (.seq (.reg [⟨(some p3), none, .zero [(.int .i64 0), (.int .i64 0), (.int .i64 0), (.int .i64 0)]⟩] []) (.seq (.reg [⟨(some p4), none, .slarr 4 1 (.t p3) none none none⟩, ⟨(some p5), none, .mov (.t p0)⟩, ⟨(some p6), none, .cpy 1 (.t p4) (.t p5)⟩] []) (.kill [p0, p4, p5, p6] (.seq (.reg [⟨(some p7), none, .ld (some 4) (.t p3)⟩, ⟨none, none, .st 4 (.t p2) (.t p7)⟩] []) .ret))))) }
def a49 : AFunc := { params := [p0, p1, p2], init := i93, results := [.tmp p6, .tmp p7], body := (.seq (.reg [⟨(some p5), none, .box (.t p2)⟩, ⟨(some p6), none, .mov (.c (.slice none 0 0))⟩, ⟨(some p7), none, .mov (.c (.bool false))⟩] []) (.kill [p2, p6, p7] (.seq (.reg [⟨(some p13), none, .iad 2 1 (.t p5) (.c (.int .i64 0))⟩, ⟨(some p14), none, .ld none (.t p13)⟩, ⟨(some p15), none, .iad 2 1 (.t p5) (.c (.int .i64 1))⟩, ⟨(some p16), none, .ld none (.t p15)⟩, ⟨(some p8), none, .mov (.t p14)⟩, ⟨(some p9), none, .mov (.t p16)⟩] []) (.kill [p5, p13, p14, p15, p16] (.seq (.reg [⟨(some p17), none, .mov (.t p0)⟩, ⟨(some p18), none, .len 1 (.t p17)⟩, ⟨(some p10), none, .mov (.t p18)⟩] []) (.kill [p17, p18] (.seq (.seq (.reg [⟨(some p19), none, .mov (.t p8)⟩, ⟨(some p20), none, .bin .lss (.t p19) (.c (.int .i64 (-1)))⟩, ⟨(some p21), none, .mov (.t p20)⟩, ⟨(some p22), (some (p21, false)), .mov (.t p8)⟩, ⟨(some p23), (some (p21, false)), .mov (.t p10)⟩, ⟨(some p24), (some (p21, false)), .bin .geq (.t p22) (.t p23)⟩, ⟨(some p25), none, .pick (.t p21) (.c (.bool true)) (.t p24)⟩, ⟨(some p26), none, .mov (.t p25)⟩, ⟨(some p27), (some (p26, false)), .mov (.t p9)⟩, ⟨(some p28), (some (p26, false)), .bin .lss (.t p27) (.c (.int .i64 (-1)))⟩, ⟨(some p29), none, .pick (.t p26) (.c (.bool true)) (.t p28)⟩, ⟨(some p30), none, .mov (.t p29)⟩, ⟨(some p31), (some (p30, false)), .mov (.t p9)⟩, ⟨(some p32), (some (p30, false)), .mov (.t p10)⟩, ⟨(some p33), (some (p30, false)), .bin .geq (.t p31) (.t p32)⟩, ⟨(some p34), none, .pick (.t p30) (.c (.bool true)) (.t p33)⟩, ⟨(some p35), none, .mov (.t p34)⟩, ⟨(some p36), (some (p35, false)), .mov (.t p8)⟩, ⟨(some p37), (some (p35, false)), .mov (.t p9)⟩, ⟨(some p38), (some (p35, false)), .bin .eql (.t p36) (.t p37)⟩, ⟨(some p39), none, .pick (.t p35) (.c (.bool true)) (.t p38)⟩] []) (.kill [p10, p19, p20, p21, p22, p23, p24, p25, p26, p27, p28, p29, p30, p31, p32, p33, p34, p35, p36, p37, p38] (.cond (.t p39) (.kill [p39] (.seq (.reg [⟨(some p40), none, .mov (.t p1)⟩, ⟨(some p6), none, .mov (.t p40)⟩, ⟨(some p7), none, .mov (.c (.bool false))⟩] []) .ret)) .skip))) (.kill [p39] (.seq (.reg [⟨(some p11), none, .mov (.c (.slice none 0 0))⟩] []) (.seq (.reg [⟨(some p41), none, .mov (.t p11)⟩, ⟨(some p42), none, .mov (.t p1)⟩, ⟨(some p43), none, .app 1 (.t p41) (.t p42)⟩, ⟨(some p11), none, .mov (.t p43)⟩] []) (.kill [p41, p42, p43] (.seq (.block 0 (.seq (.reg [⟨(some p77), none, .mov (.t p8)⟩, ⟨(some p78), none, .bin .eql (.t p77) (.c (.int .i64 (-1)))⟩, ⟨(some p76), none, .mov (.t p78)⟩] []) (.kill [p77, p78] (.cond (.t p76) (.kill [p76] (.reg [⟨(some p79), none, .mov (.t p11)⟩, ⟨(some p80), none, .mov (.t p9)⟩, ⟨(some p81), none, .mov (.t p0)⟩, ⟨(some p82), none, .mov (.t p9)⟩, ⟨(some p83), none, .ias 1 (.t p81) (.t p82)⟩, ⟨(some p84), none, .ld none (.t p83)⟩, ⟨(some p85), none, .ias 1 (.t p79) (.t p80)⟩, ⟨none, none, .st 1 (.t p85) (.t p84)⟩] [])) (.kill [p76] (.seq (.reg [⟨(some p87), none, .mov (.t p9)⟩, ⟨(some p88), none, .bin .eql (.t p87) (.c (.int .i64 (-1)))⟩, ⟨(some p86), none, .mov (.t p88)⟩] []) (.kill [p87, p88] (.cond (.t p86) (.kill [p86] (.reg [⟨(some p89), none, .mov (.t p11)⟩, ⟨(some p90), none, .mov (.t p8)⟩, ⟨(some p91), none, .ias 1 (.t p89) (.t p90)⟩, ⟨none, none, .st 1 (.t p91) (.c (.int .i64 0))⟩] [])) (.kill [p86] (.seq (.reg [⟨(some p44), none, .mov (.t p1)⟩, ⟨(some p45), none, .mov (.t p8)⟩, ⟨(some p46), none, .ias 1 (.t p44) (.t p45)⟩, ⟨(some p47), none, .ld none (.t p46)⟩, ⟨(some p48), none, .mov (.t p0)⟩, ⟨(some p49), none, .mov (.t p9)⟩, ⟨(some p50), none, .ias 1 (.t p48) (.t p49)⟩, ⟨(some p51), none, .ld none (.t p50)⟩, ⟨(some p52), none, .mov (.t p1)⟩, ⟨(some p53), none, .mov (.t p9)⟩, ⟨(some p54), none, .ias 1 (.t p52) (.t p53)⟩, ⟨(some p55), none, .ld none (.t p54)⟩, ⟨(some p56), none, .bin .sub (.t p51) (.t p55)⟩, ⟨(some p57), none, .min (.t p47) [(.t p56)]⟩, ⟨(some p12), none, .mov (.t p57)⟩] []) (.kill [p0, p44, p45, p46, p47, p48, p49, p50, p51, p52, p53, p54, p55, p56, p57] (.seq (.reg [⟨(some p58), none, .mov (.t p11)⟩, ⟨(some p59), none, .mov (.t p8)⟩, ⟨(some p60), none, .mov (.t p1)⟩, ⟨(some p61), none, .mov (.t p8)⟩, ⟨(some p62), none, .ias 1 (.t p60) (.t p61)⟩, ⟨(some p63), none, .ld none (.t p62)⟩, ⟨(some p64), none, .mov (.t p12)⟩, ⟨(some p65), none, .bin .sub (.t p63) (.t p64)⟩, ⟨(some p66), none, .ias 1 (.t p58) (.t p59)⟩, ⟨none, none, .st 1 (.t p66) (.t p65)⟩] []) (.kill [p8, p58, p59, p60, p61, p62, p63, p64, p65, p66] (.reg [⟨(some p67), none, .mov (.t p11)⟩, ⟨(some p68), none, .mov (.t p9)⟩, ⟨(some p69), none, .mov (.t p1)⟩, ⟨(some p70), none, .mov (.t p9)⟩, ⟨(some p71), none, .ias 1 (.t p69) (.t p70)⟩, ⟨(some p72), none, .ld none (.t p71)⟩, ⟨(some p73), none, .mov (.t p12)⟩, ⟨(some p74), none, .bin .add (.t p72) (.t p73)⟩, ⟨(some p75), none, .ias 1 (.t p67) (.t p68)⟩, ⟨none, none, .st 1 (.t p75) (.t p74)⟩] [])))))))))))))) (.kill [p0, p1, p8, p9, p12, p67, p68, p69, p70, p71, p72, p73, p74, p75, p76, p79, p80, p81, p82, p83, p84, p85, p86, p89, p90, p91] (.seq (.reg [⟨(some p92), none, .mov (.t p11)⟩, ⟨(some p6), none, .mov (.t p92)⟩, ⟨(some p7), none, .mov (.c (.bool true))⟩] []) .ret)))))))))))))) }
def a50 : AFunc := { params := [p0, p1], init := i21, results := [.tmp p4], body := (.seq (.reg [⟨(some p4), none, .mov (.c (.bool false))⟩] []) (.kill [p4] (.seq (.seq (.reg [⟨(some p5), none, .mov (.c (.int .i64 0))⟩] []) (.block 0 (.loop (.seq (.seq (.reg [⟨(some p6), none, .mov (.t p5)⟩, ⟨(some p7), none, .mov (.t p0)⟩, ⟨(some p8), none, .len 1 (.t p7)⟩, ⟨(some p9), none, .bin .lss (.t p6) (.t p8)⟩] []) (.kill [p6, p7, p8] (.cond (.t p9) .skip (.exit 0)))) (.kill [p9] (.seq (.block 1 (.seq (.reg [⟨(some p12), none, .mov (.t p0)⟩, ⟨(some p13), none, .mov (.t p5)⟩, ⟨(some p14), none, .ias 1 (.t p12) (.t p13)⟩, ⟨(some p15), none, .ld none (.t p14)⟩, ⟨(some p16), none, .mov (.t p1)⟩, ⟨(some p17), none, .mov (.t p5)⟩, ⟨(some p18), none, .ias 1 (.t p16) (.t p17)⟩, ⟨(some p19), none, .ld none (.t p18)⟩, ⟨(some p20), none, .bin .neq (.t p15) (.t p19)⟩] []) (.kill [p12, p13, p14, p15, p16, p17, p18, p19] (.cond (.t p20) (.kill [p20] (.seq (.reg [⟨(some p4), none, .mov (.c (.bool false))⟩] []) .ret)) .skip)))) (.kill [p20] (.reg [⟨(some p10), none, .mov (.t p5)⟩, ⟨(some p11), none, .bin .add (.t p10) (.c (.int .i64 1))⟩, ⟨(some p5), none, .mov (.t p11)⟩] [])))))))) (.kill [p0, p1, p5, p9] (.seq (.reg [⟨(some p4), none, .mov (.c (.bool true))⟩] []) .ret))))) }
def a51 : AFunc := { params := [p0, p1, p2], init := i44, results := [.tmp p6, .tmp p7], body := (.seq (.reg [⟨(some p4), none, .box (.t p1)⟩, ⟨(some p6), none, .mov (.c (.slice none 0 0))⟩, ⟨(some p7), none, .mov (.c (.bool false))⟩] []) (.kill [p1, p6, p7] (.seq (.reg [⟨(some p14), none, .mov (.t p0)⟩, ⟨(some p15), none, .ld (some 4) (.t p4)⟩, ⟨(some p16), none, .mov (.t p2)⟩, ⟨(some p17), none, .call (.c (.func (.func 66) #[] #[])) [(.t p14), (.t p15), (.t p16)]⟩, ⟨(some p13), none, .mov (.t p17)⟩, ⟨(some p18), none, .ext 0 (.t p13)⟩, ⟨(some p19), none, .ext 1 (.t p13)⟩, ⟨(some p20), none, .ext 2 (.t p13)⟩, ⟨(some p9), none, .zero [(.int .i64 0), (.int .i64 0), (.int .i64 0), (.int .i64 0)]⟩, ⟨(some p8), none, .mov (.t p18)⟩, ⟨none, none, .st 4 (.t p9) (.t p19)⟩, ⟨(some p10), none, .mov (.t p20)⟩] []) (.kill [p0, p2, p13, p14, p15, p16, p17, p18, p19, p20] (.seq (.seq (.reg [⟨(some p21), none, .mov (.t p10)⟩, ⟨(some p22), none, .un .not (.t p21)⟩] []) (.kill [p10, p21] (.cond (.t p22) (.kill [p22] (.seq (.reg [⟨(some p6), none, .mov (.c (.slice none 0 0))⟩, ⟨(some p7), none, .mov (.c (.bool false))⟩] []) .ret)) .skip))) (.kill [p22] (.seq (.reg [⟨(some p11), none, .mov (.c (.slice none 0 0))⟩] []) (.seq (.block 0 (.loop (.seq (.seq (.reg [⟨(some p23), none, .ld (some 4) (.t p9)⟩, ⟨(some p24), none, .ld (some 4) (.t p4)⟩, ⟨(some p25), none, .eqs (.cells [.int, .int, .int, .int]) true (.t p23) (.t p24)⟩] []) (.kill [p23, p24] (.cond (.t p25) .skip (.exit 0)))) (.kill [p25] (.block 1 (.seq (.reg [⟨(some p26), none, .mov (.t p8)⟩, ⟨(some p27), none, .ld (some 4) (.t p9)⟩, ⟨(some p28), none, .look false [.int, .int, .int, .int] (.agg #[(.int .i64 0), (.int .i64 0), (.int .i64 0), (.int .i64 0), (.int .i64 0), (.int .i64 0), (.int .i64 0)]) (.t p26) (.t p27)⟩, ⟨(some p12), none, .zero [(.int .i64 0), (.int .i64 0), (.int .i64 0), (.int .i64 0), (.int .i64 0), (.int .i64 0), (.int .i64 0)]⟩, ⟨none, none, .st 7 (.t p12) (.t p28)⟩] []) (.kill [p26, p27, p28] (.seq (.reg [⟨(some p29), none, .mov (.t p11)⟩, ⟨(some p30), none, .fad 4 (.t p12)⟩, ⟨(some p31), none, .fad 0 (.t p30)⟩, ⟨(some p32), none, .ld none (.t p31)⟩, ⟨(some p33), none, .fad 4 (.t p12)⟩, ⟨(some p34), none, .fad 1 (.t p33)⟩, ⟨(some p35), none, .ld none (.t p34)⟩, ⟨(some p36), none, .build [(.int .i64 0), (.int .i64 0)] [(0, 1, (.t p32)), (1, 1, (.t p35))]⟩, ⟨(some p37), none, .bslice 1 2 [(.int .i64 0), (.int .i64 0)] [(0, 2, (.t p36))]⟩, ⟨(some p38), none, .app 2 (.t p29) (.t p37)⟩, ⟨(some p11), none, .mov (.t p38)⟩] []) (.kill [p29, p30, p31, p32, p33, p34, p35, p36, p37, p38] (.reg [⟨(some p39), none, .fad 0 (.t p12)⟩, ⟨(some p40), none, .ld (some 4) (.t p39)⟩, ⟨none, none, .st 4 (.t p9) (.t p40)⟩] [])))))))))) (.kill [p4, p8, p9, p25] (.seq (.reg [⟨(some p41), none, .mov (.t p11)⟩, ⟨(some p42), none, .call (.c (.func (.func 67) #[] #[])) [(.t p41)]⟩] []) (.kill [p41, p42] (.seq (.reg [⟨(some p43), none, .mov (.t p11)⟩, ⟨(some p6), none, .mov (.t p43)⟩, ⟨(some p7), none, .mov (.c (.bool true))⟩] []) .ret)))))))))))) }
def a52 : AFunc := { params := [p0, p1], init := i7, results := [.tmp p3], body := (.seq (.reg [⟨(some p2), none, .box (.t p0)⟩, ⟨(some p3), none, .mov (.c (.bool false))⟩] []) (.kill [p0, p3] (.seq (.reg [⟨(some p4), none, .ld (some 4) (.t p2)⟩, ⟨(some p5), none, .ld (some 4) (.t p1)⟩, ⟨(some p6), none, .eqs (.cells [.int, .int, .int, .int]) false (.t p4) (.t p5)⟩, ⟨(some p3), none, .mov (.t p6)⟩] []) .ret))) }
def a53 : AFunc := { params := [p0, p1, p2], init := i36, results := [.tmp p6, .tmp p7], body := (.seq (.reg [⟨(some p6), none, .mov (.c (.bool false))⟩, ⟨(some p7), none, .mov (.c (.int .i64 0))⟩] []) (.kill [p6, p7] (.seq (.seq (.reg [⟨(some p8), none, .mov (.t p0)⟩, ⟨(some p9), none, .mov (.t p1)⟩, ⟨(some p10), none, .min (.t p8) [(.t p9)]⟩, ⟨(some p11), none, .bin .lss (.t p10) (.c (.int .i64 1))⟩, ⟨(some p12), none, .mov (.t p11)⟩, ⟨(some p13), (some (p12, false)), .mov (.t p0)⟩, ⟨(some p14), (some (p12, false)), .mov (.t p1)⟩, ⟨(some p15), (some (p12, false)), .max (.t p13) [(.t p14)]⟩, ⟨(some p16), (some (p12, false)), .bin .gtr (.t p15) (.c (.int .i64 1000))⟩, ⟨(some p17), none, .pick (.t p12) (.c (.bool true)) (.t p16)⟩, ⟨(some p18), none, .mov (.t p17)⟩, ⟨(some p19), (some (p18, false)), .mov (.t p2)⟩, ⟨(some p20), (some (p18, false)), .bin .lss (.t p19) (.c (.int .i64 0))⟩, ⟨(some p21), none, .pick (.t p18) (.c (.bool true)) (.t p20)⟩, ⟨(some p22), none, .mov (.t p21)⟩, ⟨(some p23), (some (p22, false)), .mov (.t p2)⟩, ⟨(some p24), (some (p22, false)), .mov (.t p0)⟩, ⟨(some p25), (some (p22, false)), .mov (.t p1)⟩, ⟨(some p26), (some (p22, false)), .max (.t p24) [(.t p25)]⟩, ⟨(some p27), (some (p22, false)), .bin .gtr (.t p23) (.t p26)⟩, ⟨(some p28), none, .pick (.t p22) (.c (.bool true)) (.t p27)⟩] []) (.kill [p8, p9, p10, p11, p12, p13, p14, p15, p16, p17, p18, p19, p20, p21, p22, p23, p24, p25, p26, p27] (.cond (.t p28) (.kill [p28] (.seq (.reg [⟨(some p6), none, .mov (.c (.bool false))⟩, ⟨(some p7), none, .mov (.c (.int .i64 1))⟩] []) .ret)) .skip))) (.kill [p28] (.seq (.reg [⟨(some p29), none, .mov (.t p2)⟩, ⟨(some p30), none, .mov (.t p0)⟩, ⟨(some p31), none, .mov (.t p1)⟩, ⟨(some p32), none, .bslice 2 1 [(.int .i64 0)] [(0, 1, (.t p30)), (1, 1, (.t p31))]⟩, ⟨(some p33), none, .call (.c (.func (.func 58) #[] #[])) [(.t p32)]⟩, ⟨(some p34), none, .bin .rem (.t p29) (.t p33)⟩, ⟨(some p35), none, .bin .eql (.t p34) (.c (.int .i64 0))⟩, ⟨(some p6), none, .mov (.t p35)⟩, ⟨(some p7), none, .mov (.c (.int .i64 0))⟩] []) .ret))))) }
def a54 : AFunc := { params := [p0, p1, p2], init := i17, results := [.cell (some 7) p6], body := (.seq (.reg [⟨(some p6), none, .zero [(.int .i64 0), (.int .i64 0), (.int .i64 0), (.int .i64 0), (.int .i64 0), (.bool false), (.int .i64 0)]⟩] []) (.seq (.reg [⟨(some p8), none, .mov (.t p0)⟩, ⟨(some p9), none, .mov (.t p1)⟩, ⟨(some p10), none, .build [(.int .i64 0), (.int .i64 0), (.int .i64 0), (.int .i64 0)] [(0, 1, (.t p8)), (1, 1, (.t p9))]⟩, ⟨(some p11), none, .build [(.int .i64 0), (.int .i64 0), (.int .i64 0), (.int .i64 0), (.int .i64 0), (.bool false)] [(0, 1, (.c (.int .i64 2))), (1, 4, (.t p10))]⟩, ⟨(some p12), none, .build [(.int .i64 0), (.int .i64 0), (.int .i64 0), (.int .i64 0), (.int .i64 0), (.bool false), (.int .i64 0)] [(0, 6, (.t p11))]⟩, ⟨(some p7), none, .zero [(.int .i64 0), (.int .i64 0), (.int .i64 0), (.int .i64 0), (.int .i64 0), (.bool false), (.int .i64 0)]⟩, ⟨none, none, .st 7 (.t p7) (.t p12)⟩] []) (.kill [p0, p1, p8, p9, p10, p11, p12] (.seq (.seq (.reg [⟨(some p13), none, .mov (.t p2)⟩, ⟨(some p14), none, .un .not (.t p13)⟩] []) (.kill [p2, p13] (.cond (.t p14) (.kill [p14] (.reg [⟨(some p15), none, .fad 6 (.t p7)⟩, ⟨none, none, .st 1 (.t p15) (.c (.int .i64 1))⟩] [])) .skip))) (.kill [p14, p15] (.seq (.reg [⟨(some p16), none, .ld (some 7) (.t p7)⟩, ⟨none, none, .st 7 (.t p6) (.t p16)⟩] []) .ret)))))) }
def a55 : AFunc := { params := [p0, p1], init := i39, results := [.tmp p4], body := (.seq (.reg [⟨(some p2), none, .box (.t p0)⟩, ⟨(some p4), none, .mov (.c (.slice none 0 0))⟩] []) (.kill [p0, p4] (.seq (.reg [⟨(some p5), none, .mov (.c (.slice none 0 0))⟩] []) (.seq (.reg [⟨(some p9), none, .ld (some 7) (.t p2)⟩, ⟨(some p10), none, .clos (.func 68) [(.t p9)] []⟩, ⟨(some p6), none, .mov (.t p10)⟩] []) (.kill [p9, p10] (.seq (.seq (.reg [⟨(some p11), none, .build [(.int .i64 0), (.int .i64 0), (.int .i64 0), (.int .i64 0)] []⟩, ⟨(some p7), none, .zero [(.int .i64 0), (.int .i64 0), (.int .i64 0), (.int .i64 0)]⟩, ⟨none, none, .st 4 (.t p7) (.t p11)⟩] []) (.kill [p11] (.block 0 (.loop (.seq (.seq (.reg [⟨(some p12), none, .iad 4 1 (.t p7) (.c (.int .i64 0))⟩, ⟨(some p13), none, .ld none (.t p12)⟩, ⟨(some p14), none, .mov (.t p1)⟩, ⟨(some p15), none, .bin .neq (.t p13) (.t p14)⟩, ⟨(some p16), none, .mov (.t p15)⟩, ⟨(some p17), (some (p16, true)), .iad 4 1 (.t p7) (.c (.int .i64 1))⟩, ⟨(some p18), (some (p16, true)), .ld none (.t p17)⟩, ⟨(some p19), (some (p16, true)), .mov (.t p1)⟩, ⟨(some p20), (some (p16, true)), .bin .neq (.t p18) (.t p19)⟩, ⟨(some p21), none, .pick (.t p16) (.t p20) (.c (.bool false))⟩] []) (.kill [p12, p13, p14, p15, p16, p17, p18, p19, p20] (.cond (.t p21) .skip (.exit 0)))) (.kill [p21] (.seq (.block 1 (.seq (.reg [⟨(some p22), none, .mov (.t p6)⟩, ⟨(some p23), none, .ld (some 4) (.t p7)⟩, ⟨(some p24), none, .call (.t p22) [(.t p23)]⟩, ⟨(some p8), none, .zero [(.int .i64 0), (.int .i64 0)]⟩, ⟨none, none, .st 2 (.t p8) (.t p24)⟩] []) (.kill [p22, p23, p24] (.seq (.reg [⟨(some p25), none, .mov (.t p5)⟩, ⟨(some p26), none, .fad 0 (.t p8)⟩, ⟨(some p27), none, .ld none (.t p26)⟩, ⟨(some p28), none, .fad 1 (.t p8)⟩, ⟨(some p29), none, .ld none (.t p28)⟩, ⟨(some p30), none, .build [(.int .i64 0), (.int .i64 0)] [(0, 1, (.t p27)), (1, 1, (.t p29))]⟩, ⟨(some p31), none, .bslice 1 2 [(.int .i64 0), (.int .i64 0)] [(0, 2, (.t p30))]⟩, ⟨(some p32), none, .app 2 (.t p25) (.t p31)⟩, ⟨(some p5), none, .mov (.t p32)⟩] []) (.kill [p25, p26, p27, p28, p29, p30, p31, p32] (.reg [⟨(some p33), none, .ld (some 2) (.t p8)⟩, ⟨(some p34), none, .fad 0 (.t p2)⟩, ⟨(some p35), none, .ld (some 4) (.t p7)⟩, ⟨(some p36), none, .call (.c (.func (.func 62) #[] #[])) [(.t p33), (.t p34), (.t p35)]⟩, ⟨none, none, .st 4 (.t p7) (.t p36)⟩] [])))))) (.kill [p8, p33, p34, p35, p36] (.seq (.reg [⟨(some p37), none, .ld (some 4) (.t p7)⟩] []) (.kill [p7] (.reg [⟨(some p7), none, .zero [(.int .i64 0), (.int .i64 0), (.int .i64 0), (.int .i64 0)]⟩, ⟨none, none, .st 4 (.t p7) (.t p37)⟩] []))))))))))) (.kill [p1, p2, p6, p7, p21] (.seq (.reg [⟨(some p38), none, .mov (.t p5)⟩, ⟨(some p4), none, .mov (.t p38)⟩] []) .ret)))))))) }
def a56 : AFunc := { params := [p0, p1], init := i12, results := [.tmp p4], body := (.seq (.reg [⟨(some p4), none, .mov (.c (.int .i64 0))⟩] []) (.kill [p4] (.seq (.block 0 (.loop (.seq (.seq (.reg [⟨(some p5), none, .mov (.t p1)⟩, ⟨(some p6), none, .bin .gtr (.t p5) (.c (.int .i64 0))⟩] []) (.kill [p5] (.cond (.t p6) .skip (.exit 0)))) (.kill [p6] (.block 1 (.reg [⟨(some p7), none, .mov (.t p1)⟩, ⟨(some p8), none, .mov (.t p0)⟩, ⟨(some p9), none, .mov (.t p1)⟩, ⟨(some p10), none, .bin .rem (.t p8) (.t p9)⟩, ⟨(some p0), none, .mov (.t p7)⟩, ⟨(some p1), none, .mov (.t p10)⟩] [])))))) (.kill [p1, p6] (.seq (.reg [⟨(some p11), none, .mov (.t p0)⟩, ⟨(some p4), none, .mov (.t p11)⟩] []) .ret))))) }
def a57 : AFunc := { params := [p0], init := i25, results := [.tmp p2], body := (.seq (.reg [⟨(some p2), none, .mov (.c (.int .i64 0))⟩] []) (.kill [p2] (.seq (.seq (.reg [⟨(some p5), none, .mov (.t p0)⟩, ⟨(some p6), none, .len 1 (.t p5)⟩, ⟨(some p7), none, .bin .lss (.t p6) (.c (.int .i64 1))⟩] []) (.kill [p5, p6] (.cond (.t p7) (.kill [p7] (.reg [⟨(some p8), none, .bad⟩, ⟨none, none, .bad⟩] [])) .skip))) (.kill [p7, p8] (.seq (.reg [⟨(some p9), none, .mov (.t p0)⟩, ⟨(some p10), none, .ias 1 (.t p9) (.c (.int .i64 0))⟩, ⟨(some p11), none, .ld none (.t p10)⟩, ⟨(some p3), none, .mov (.t p11)⟩] []) (.kill [p9, p10, p11] (.seq (.seq (.reg [⟨(some p4), none, .mov (.c (.int .i64 1))⟩] []) (.block 0 (.loop (.seq (.seq (.reg [⟨(some p12), none, .mov (.t p4)⟩, ⟨(some p13), none, .mov (.t p0)⟩, ⟨(some p14), none, .len 1 (.t p13)⟩, ⟨(some p15), none, .bin .lss (.t p12) (.t p14)⟩] []) (.kill [p12, p13, p14] (.cond (.t p15) .skip (.exit 0)))) (.kill [p15] (.seq (.block 1 (.reg [⟨(some p18), none, .mov (.t p3)⟩, ⟨(some p19), none, .mov (.t p0)⟩, ⟨(some p20), none, .mov (.t p4)⟩, ⟨(some p21), none, .ias 1 (.t p19) (.t p20)⟩, ⟨(some p22), none, .ld none (.t p21)⟩, ⟨(some p23), none, .max (.t p18) [(.t p22)]⟩, ⟨(some p3), none, .mov (.t p23)⟩] [])) (.kill [p18, p19, p20, p21, p22, p23] (.reg [⟨(some p16), none, .mov (.t p4)⟩, ⟨(some p17), none, .bin .add (.t p16) (.c (.int .i64 1))⟩, ⟨(some p4), none, .mov (.t p17)⟩] [])))))))) (.kill [p0, p4, p15] (.seq (.reg [⟨(some p24), none, .mov (.t p3)⟩, ⟨(some p2), none, .mov (.t p24)⟩] []) .ret))))))))) }
def a58 : AFunc := { params := [p0], init := i20, results := [.tmp p2], body := (.seq (.reg [⟨(some p2), none, .mov (.c (.int .i64 0))⟩] []) (.kill [p2] (.seq (.reg [⟨(some p3), none, .mov (.c (.int .i64 0))⟩] []) (.seq (.seq (.reg [⟨(some p6), none, .mov (.t p0)⟩, ⟨(some p7), none, .len 1 (.t p6)⟩, ⟨(some p8), none, .mov (.c (.int .i64 0))⟩] []) (.kill [p0] (.block 0 (.loop (.seq (.reg [⟨(some p9), none, .bin .lss (.t p8) (.t p7)⟩] []) (.seq (.cond (.t p9) .skip (.exit 0)) (.kill [p9] (.seq (.block 1 (.seq (.reg [⟨(some p10), none, .ias 1 (.t p6) (.t p8)⟩, ⟨(some p11), none, .ld none (.t p10)⟩, ⟨(some p5), none, .mov (.t p11)⟩] []) (.kill [p10, p11] (.block 2 (.loop (.seq (.seq (.reg [⟨(some p12), none, .mov (.t p5)⟩, ⟨(some p13), none, .bin .neq (.t p12) (.c (.int .i64 0))⟩] []) (.kill [p12] (.cond (.t p13) .skip (.exit 2)))) (.kill [p13] (.block 3 (.reg [⟨(some p14), none, .mov (.t p5)⟩, ⟨(some p15), none, .mov (.t p3)⟩, ⟨(some p16), none, .mov (.t p5)⟩, ⟨(some p17), none, .bin .rem (.t p15) (.t p16)⟩, ⟨(some p3), none, .mov (.t p14)⟩, ⟨(some p5), none, .mov (.t p17)⟩] []))))))))) (.kill [p5, p13] (.reg [⟨(some p18), none, .bin .add (.t p8) (.c (.int .i64 1))⟩, ⟨(some p8), none, .mov (.t p18)⟩] [])))))))))) (.kill [p6, p7, p8, p9, p13] (.seq (.reg [⟨(some p19), none, .mov (.t p3)⟩, ⟨(some p2), none, .mov (.t p19)⟩] []) .ret)))))) }
def a59 : AFunc := { params := [p0, p1], init := i34, results := [.tmp p4, .tmp p5, .tmp p6], body := (.seq (.reg [⟨(some p3), none, .box (.t p1)⟩, ⟨(some p4), none, .mov (.c (.slice none 0 0))⟩, ⟨(some p5), none, .mov (.c (.bool false))⟩, ⟨(some p6), none, .mov (.c (.int .i64 0))⟩] []) (.kill [p1, p4, p5, p6] (.seq (.reg [⟨(some p12), none, .mov (.t p0)⟩, ⟨(some p13), none, .call (.c (.func (.func 46) #[] #[])) [(.t p12), (.c (.bool false)), (.c (.slice none 0 0))]⟩, ⟨(some p11), none, .mov (.t p13)⟩, ⟨(some p14), none, .ext 0 (.t p11)⟩, ⟨(some p15), none, .ext 1 (.t p11)⟩, ⟨(some p7), none, .zero [(.pointer none)]⟩, ⟨none, none, .st 1 (.t p7) (.t p14)⟩, ⟨(some p8), none, .mov (.t p15)⟩] []) (.kill [p0, p11, p12, p13, p14, p15] (.seq (.seq (.reg [⟨(some p16), none, .mov (.t p8)⟩, ⟨(some p17), none, .bin .neq (.t p16) (.c (.int .i64 0))⟩] []) (.kill [p16] (.cond (.t p17) (.kill [p17] (.seq (.reg [⟨(some p18), none, .mov (.t p8)⟩, ⟨(some p4), none, .mov (.c (.slice none 0 0))⟩, ⟨(some p5), none, .mov (.c (.bool false))⟩, ⟨(some p6), none, .mov (.t p18)⟩] []) .ret)) .skip))) (.kill [p17] (.seq (.seq (.reg [⟨(some p19), none, .ld none (.t p3)⟩, ⟨(some p20), none, .bin .lss (.t p19) (.c (.int .i64 0))⟩, ⟨(some p21), none, .mov (.t p20)⟩, ⟨(some p22), (some (p21, false)), .ld none (.t p3)⟩, ⟨(some p23), (some (p21, false)), .bin .gtr (.t p22) (.c (.int .i64 12))⟩, ⟨(some p24), none, .pick (.t p21) (.c (.bool true)) (.t p23)⟩] []) (.kill [p19, p20, p21, p22, p23] (.cond (.t p24) (.kill [p24] (.seq (.reg [⟨(some p4), none, .mov (.c (.slice none 0 0))⟩, ⟨(some p5), none, .mov (.c (.bool false))⟩, ⟨(some p6), none, .mov (.c (.int .i64 1))⟩] []) .ret)) .skip))) (.kill [p24] (.seq (.reg [⟨(some p26), none, .ld none (.t p7)⟩, ⟨(some p27), none, .build [(.int .i64 0), (.int .i64 0), (.int .i64 0), (.int .i64 0)] []⟩, ⟨(some p28), none, .clos (.func 69) [] [(.t p7), (.t p3)]⟩, ⟨(some p29), none, .call (.c (.func (.func 51) #[] #[])) [(.t p26), (.t p27), (.t p28)]⟩, ⟨(some p25), none, .mov (.t p29)⟩, ⟨(some p30), none, .ext 0 (.t p25)⟩, ⟨(some p31), none, .ext 1 (.t p25)⟩, ⟨(some p9), none, .mov (.t p30)⟩, ⟨(some p10), none, .mov (.t p31)⟩] []) (.kill [p3, p7, p25, p26, p27, p28, p29, p30, p31] (.seq (.reg [⟨(some p32), none, .mov (.t p9)⟩, ⟨(some p33), none, .mov (.t p10)⟩, ⟨(some p4), none, .mov (.t p32)⟩, ⟨(some p5), none, .mov (.t p33)⟩, ⟨(some p6), none, .mov (.c (.int .i64 0))⟩] []) .ret))))))))))) }
def a60 : AFunc := { params := [p0, p1], init := i16, results := [.tmp p4], body := (.seq (.reg [⟨(some p3), none, .box (.t p1)⟩, ⟨(some p4), none, .mov (.c (.map none))⟩] []) (.kill [p1, p4] (.seq (.reg [⟨(some p9), none, .mov (.t p0)⟩, ⟨(some p10), none, .ld (some 4) (.t p3)⟩, ⟨(some p11), none, .call (.c (.func (.func 66) #[] #[])) [(.t p9), (.t p10), (.c (.func (.func 71) #[] #[]))]⟩, ⟨(some p8), none, .mov (.t p11)⟩, ⟨(some p12), none, .ext 0 (.t p8)⟩, ⟨(some p13), none, .ext 1 (.t p8)⟩, ⟨(some p14), none, .ext 2 (.t p8)⟩, ⟨(some p6), none, .zero [(.int .i64 0), (.int .i64 0), (.int .i64 0), (.int .i64 0)]⟩, ⟨(some p5), none, .mov (.t p12)⟩, ⟨none, none, .st 4 (.t p6) (.t p13)⟩, ⟨(some p7), none, .mov (.t p14)⟩] []) (.kill [p0, p3, p6, p7, p8, p9, p10, p11, p12, p13, p14] (.seq (.reg [⟨(some p15), none, .mov (.t p5)⟩, ⟨(some p4), none, .mov (.t p15)⟩] []) .ret))))) }
def a61 : AFunc := { params := [p0, p1], init := i41, results := [.tmp p4], body := (.seq (.reg [⟨(some p2), none, .box (.t p0)⟩, ⟨(some p3), none, .box (.t p1)⟩, ⟨(some p4), none, .mov (.c (.bool false))⟩] []) (.kill [p0, p1, p4] (.seq (.reg [⟨(some p6), none, .clos (.func 72) [] [(.t p3)]⟩, ⟨(some p5), none, .mov (.t p6)⟩] []) (.kill [p6] (.seq (.reg [⟨(some p7), none, .mov (.t p5)⟩, ⟨(some p8), none, .fad 0 (.t p2)⟩, ⟨(some p9), none, .ld none (.t p8)⟩, ⟨(some p10), none, .call (.t p7) [(.t p9)]⟩, ⟨(some p11), none, .mov (.t p10)⟩, ⟨(some p12), (some (p11, true)), .mov (.t p5)⟩, ⟨(some p13), (some (p11, true)), .fad 1 (.t p2)⟩, ⟨(some p14), (some (p11, true)), .ld none (.t p13)⟩, ⟨(some p15), (some (p11, true)), .call (.t p12) [(.t p14)]⟩, ⟨(some p16), none, .pick (.t p11) (.t p15) (.c (.bool false))⟩, ⟨(some p17), none, .mov (.t p16)⟩, ⟨(some p18), (some (p17, true)), .fad 0 (.t p2)⟩, ⟨(some p19), (some (p17, true)), .ld none (.t p18)⟩, ⟨(some p20), (some (p17, true)), .fad 1 (.t p2)⟩, ⟨(some p21), (some (p17, true)), .ld none (.t p20)⟩, ⟨(some p22), (some (p17, true)), .bin .neq (.t p19) (.t p21)⟩, ⟨(some p23), none, .pick (.t p17) (.t p22) (.c (.bool false))⟩, ⟨(some p24), none, .mov (.t p23)⟩, ⟨(some p25), (some (p24, true)), .ld none (.t p3)⟩, ⟨(some p26), (some (p24, true)), .nilchk (.t p25)⟩, ⟨(some p27), (some (p24, true)), .fad 5 (.t p26)⟩, ⟨(some p28), (some (p24, true)), .ld none (.t p27)⟩, ⟨(some p29), (some (p24, true)), .un .not (.t p28)⟩, ⟨(some p30), (some (p24, true)), .mov (.t p29)⟩, ⟨(some p31), (some (p30, false)), .fad 0 (.t p2)⟩, ⟨(some p32), (some (p30, false)), .ld none (.t p31)⟩, ⟨(some p33), (some (p30, false)), .bin .neq (.t p32) (.c (.int .i64 (-1)))⟩, ⟨(some p34), (some (p30, false)), .mov (.t p33)⟩, ⟨(some p35), (some (p34, true)), .fad 1 (.t p2)⟩, ⟨(some p36), (some (p34, true)), .ld none (.t p35)⟩, ⟨(some p37), (some (p34, true)), .bin .neq (.t p36) (.c (.int .i64 (-1)))⟩, ⟨(some p38), (some (p30, false)), .pick (.t p34) (.t p37) (.c (.bool false))⟩, ⟨(some p39), (some (p24, true)), .pick (.t p30) (.c (.bool true)) (.t p38)⟩, ⟨(some p40), none, .pick (.t p24) (.t p39) (.c (.bool false))⟩, ⟨(some p4), none, .mov (.t p40)⟩] []) .ret))))) }
def a62 : AFunc := { params := [p0, p1, p2], init := i61, results := [.cell (some 4) p6], body := (.seq (.reg [⟨(some p3), none, .box (.t p0)⟩, ⟨(some p5), none, .box (.t p2)⟩, ⟨(some p6), none, .zero [(.int .i64 0), (.int .i64 0), (.int .i64 0), (.int .i64 0)]⟩] []) (.kill [p0, p2] (.seq (.block 0 (.seq (.reg [⟨(some p40), none, .fad 0 (.t p3)⟩, ⟨(some p41), none, .ld none (.t p40)⟩, ⟨(some p42), none, .bin .eql (.c (.int .i64 (-1))) (.t p41)⟩, ⟨(some p39), none, .mov (.t p42)⟩] []) (.kill [p40, p41, p42] (.cond (.t p39) (.kill [p39] (.reg [⟨(some p43), none, .fad 1 (.t p3)⟩, ⟨(some p44), none, .ld none (.t p43)⟩, ⟨(some p45), none, .mov (.t p1)⟩, ⟨(some p46), none, .fad 1 (.t p3)⟩, ⟨(some p47), none, .ld none (.t p46)⟩, ⟨(some p48), none, .nilchk (.t p45)⟩, ⟨(some p49), none, .fad 1 (.t p48)⟩, ⟨(some p50), none, .iad 4 1 (.t p49) (.t p47)⟩, ⟨(some p51), none, .ld none (.t p50)⟩, ⟨(some p52), none, .iad 4 1 (.t p5) (.t p44)⟩, ⟨none, none, .st 1 (.t p52) (.t p51)⟩] [])) (.kill [p39] (.seq (.reg [⟨(some p54), none, .fad 1 (.t p3)⟩, ⟨(some p55), none, .ld none (.t p54)⟩, ⟨(some p56), none, .bin .eql (.c (.int .i64 (-1))) (.t p55)⟩, ⟨(some p53), none, .mov (.t p56)⟩] []) (.kill [p54, p55, p56] (.cond (.t p53) (.kill [p53] (.reg [⟨(some p57), none, .fad 0 (.t p3)⟩, ⟨(some p58), none, .ld none (.t p57)⟩, ⟨(some p59), none, .iad 4 1 (.t p5) (.t p58)⟩, ⟨none, none, .st 1 (.t p59) (.c (.int .i64 0))⟩] [])) (.kill [p53] (.seq (.reg [⟨(some p8), none, .fad 0 (.t p3)⟩, ⟨(some p9), none, .ld none (.t p8)⟩, ⟨(some p10), none, .iad 4 1 (.t p5) (.t p9)⟩, ⟨(some p11), none, .ld none (.t p10)⟩, ⟨(some p12), none, .mov (.t p1)⟩, ⟨(some p13), none, .fad 1 (.t p3)⟩, ⟨(some p14), none, .ld none (.t p13)⟩, ⟨(some p15), none, .nilchk (.t p12)⟩, ⟨(some p16), none, .fad 1 (.t p15)⟩, ⟨(some p17), none, .iad 4 1 (.t p16) (.t p14)⟩, ⟨(some p18), none, .ld none (.t p17)⟩, ⟨(some p19), none, .fad 1 (.t p3)⟩, ⟨(some p20), none, .ld none (.t p19)⟩, ⟨(some p21), none, .iad 4 1 (.t p5) (.t p20)⟩, ⟨(some p22), none, .ld none (.t p21)⟩, ⟨(some p23), none, .bin .sub (.t p18) (.t p22)⟩, ⟨(some p24), none, .min (.t p11) [(.t p23)]⟩, ⟨(some p7), none, .mov (.t p24)⟩] []) (.kill [p1, p8, p9, p10, p11, p12, p13, p14, p15, p16, p17, p18, p19, p20, p21, p22, p23, p24] (.seq (.reg [⟨(some p25), none, .fad 0 (.t p3)⟩, ⟨(some p26), none, .ld none (.t p25)⟩, ⟨(some p27), none, .iad 4 1 (.t p5) (.t p26)⟩, ⟨(some p28), none, .ld none (.t p27)⟩, ⟨(some p29), none, .mov (.t p7)⟩, ⟨(some p30), none, .bin .sub (.t p28) (.t p29)⟩, ⟨(some p31), none, .iad 4 1 (.t p5) (.t p26)⟩, ⟨none, none, .st 1 (.t p31) (.t p30)⟩] []) (.kill [p25, p26, p27, p28, p29, p30, p31] (.reg [⟨(some p32), none, .fad 1 (.t p3)⟩, ⟨(some p33), none, .ld none (.t p32)⟩, ⟨(some p34), none, .iad 4 1 (.t p5) (.t p33)⟩, ⟨(some p35), none, .ld none (.t p34)⟩, ⟨(some p36), none, .mov (.t p7)⟩, ⟨(some p37), none, .bin .add (.t p35) (.t p36)⟩, ⟨(some p38), none, .iad 4 1 (.t p5) (.t p33)⟩, ⟨none, none, .st 1 (.t p38) (.t p37)⟩] [])))))))))))))) (.kill [p1, p3, p7, p32, p33, p34, p35, p36, p37, p38, p39, p43, p44, p45, p46, p47, p48, p49, p50, p51, p52, p53, p57, p58, p59] (.seq (.reg [⟨(some p60), none, .ld (some 4) (.t p5)⟩, ⟨none, none, .st 4 (.t p6) (.t p60)⟩] []) .ret))))) }
def a63 : AFunc := { params := [p0], init := i8, results := [.tmp p2], body := (.seq (.reg [⟨(some p2), none, .mov (.c (.slice none 0 0))⟩] []) (.kill [p2] (.seq (.seq (.reg [⟨(some p3), none, .mov (.t p0)⟩, ⟨(some p4), none, .eqs (.slice) false (.t p3) (.c (.slice none 0 0))⟩] []) (.kill [p3] (.cond (.t p4) (.kill [p4] (.seq (.reg [⟨(some p2), none, .mov (.c (.slice none 0 0))⟩] []) .ret)) .skip))) (.kill [p4] (.seq (.reg [⟨(some p5), none, .bslice 0 1 [(.int .i64 0)] []⟩, ⟨(some p6), none, .mov (.t p0)⟩, ⟨(some p7), none, .app 1 (.t p5) (.t p6)⟩, ⟨(some p2), none, .mov (.t p7)⟩] []) .ret))))) }
def a64 : AFunc := { params := [p0], init := i25, results := [.tmp p2], body := (.seq (.reg [⟨(some p2), none, .mov (.c (.int .i64 0))⟩] []) (.kill [p2] (.seq (.seq (.reg [⟨(some p5), none, .mov (.t p0)⟩, ⟨(some p6), none, .len 1 (.t p5)⟩, ⟨(some p7), none, .bin .lss (.t p6) (.c (.int .i64 1))⟩] []) (.kill [p5, p6] (.cond (.t p7) (.kill [p7] (.reg [⟨(some p8), none, .bad⟩, ⟨none, none, .bad⟩] [])) .skip))) (.kill [p7, p8] (.seq (.reg [⟨(some p9), none, .mov (.t p0)⟩, ⟨(some p10), none, .ias 1 (.t p9) (.c (.int .i64 0))⟩, ⟨(some p11), none, .ld none (.t p10)⟩, ⟨(some p3), none, .mov (.t p11)⟩] []) (.kill [p9, p10, p11] (.seq (.seq (.reg [⟨(some p4), none, .mov (.c (.int .i64 1))⟩] []) (.block 0 (.loop (.seq (.seq (.reg [⟨(some p12), none, .mov (.t p4)⟩, ⟨(some p13), none, .mov (.t p0)⟩, ⟨(some p14), none, .len 1 (.t p13)⟩, ⟨(some p15), none, .bin .lss (.t p12) (.t p14)⟩] []) (.kill [p12, p13, p14] (.cond (.t p15) .skip (.exit 0)))) (.kill [p15] (.seq (.block 1 (.reg [⟨(some p18), none, .mov (.t p3)⟩, ⟨(some p19), none, .mov (.t p0)⟩, ⟨(some p20), none, .mov (.t p4)⟩, ⟨(some p21), none, .ias 1 (.t p19) (.t p20)⟩, ⟨(some p22), none, .ld none (.t p21)⟩, ⟨(some p23), none, .min (.t p18) [(.t p22)]⟩, ⟨(some p3), none, .mov (.t p23)⟩] [])) (.kill [p18, p19, p20, p21, p22, p23] (.reg [⟨(some p16), none, .mov (.t p4)⟩, ⟨(some p17), none, .bin .add (.t p16) (.c (.int .i64 1))⟩, ⟨(some p4), none, .mov (.t p17)⟩] [])))))))) (.kill [p0, p4, p15] (.seq (.reg [⟨(some p24), none, .mov (.t p3)⟩, ⟨(some p2), none, .mov (.t p24)⟩] []) .ret))))))))) }
def a65 : AFunc := { params := [p0, p1, p2], init := i45, results := [], body := (.seq (.reg [⟨(some p4), none, .mov (.c (.int .i64 (-1)))⟩] []) (.block 0 (.loop (.seq (.seq (.reg [⟨(some p8), none, .mov (.t p4)⟩, ⟨(some p9), none, .ld none (.t p1)⟩, ⟨(some p10), none, .nilchk (.t p9)⟩, ⟨(some p11), none, .fad 0 (.t p10)⟩, ⟨(some p12), none, .ld none (.t p11)⟩, ⟨(some p13), none, .bin .lss (.t p8) (.t p12)⟩] []) (.kill [p8, p9, p10, p11, p12] (.cond (.t p13) .skip (.exit 0)))) (.kill [p13] (.seq (.block 1 (.seq (.reg [⟨(some p5), none, .mov (.c (.int .i64 (-1)))⟩] []) (.block 2 (.loop (.seq (.seq (.reg [⟨(some p16), none, .mov (.t p5)⟩, ⟨(some p17), none, .ld none (.t p1)⟩, ⟨(some p18), none, .nilchk (.t p17)⟩, ⟨(some p19), none, .fad 0 (.t p18)⟩, ⟨(some p20), none, .ld none (.t p19)⟩, ⟨(some p21), none, .bin .lss (.t p16) (.t p20)⟩] []) (.kill [p16, p17, p18, p19, p20] (.cond (.t p21) .skip (.exit 2)))) (.kill [p21] (.seq (.block 3 (.seq (.reg [⟨(some p24), none, .mov (.t p4)⟩, ⟨(some p25), none, .mov (.t p5)⟩, ⟨(some p26), none, .build [(.int .i64 0), (.int .i64 0)] [(0, 1, (.t p24)), (1, 1, (.t p25))]⟩, ⟨(some p6), none, .zero [(.int .i64 0), (.int .i64 0)]⟩, ⟨none, none, .st 2 (.t p6) (.t p26)⟩] []) (.kill [p24, p25, p26] (.seq (.seq (.reg [⟨(some p27), none, .ld (some 2) (.t p6)⟩, ⟨(some p28), none, .ld none (.t p1)⟩, ⟨(some p29), none, .call (.c (.func (.func 61) #[] #[])) [(.t p27), (.t p28)]⟩, ⟨(some p30), none, .un .not (.t p29)⟩] []) (.kill [p27, p28, p29] (.cond (.t p30) (.exit 3) .skip))) (.kill [p30] (.seq (.reg [⟨(some p31), none, .ld (some 2) (.t p6)⟩, ⟨(some p32), none, .ld none (.t p1)⟩, ⟨(some p33), none, .ld (some 4) (.t p2)⟩, ⟨(some p34), none, .call (.c (.func (.func 62) #[] #[])) [(.t p31), (.t p32), (.t p33)]⟩, ⟨(some p7), none, .zero [(.int .i64 0), (.int .i64 0), (.int .i64 0), (.int .i64 0)]⟩, ⟨none, none, .st 4 (.t p7) (.t p34)⟩] []) (.kill [p31, p32, p33, p34] (.seq (.reg [⟨(some p35), none, .ld (some 4) (.t p7)⟩, ⟨(some p36), none, .ld (some 4) (.t p2)⟩, ⟨(some p37), none, .eqs (.cells [.int, .int, .int, .int]) true (.t p35) (.t p36)⟩, ⟨(some p38), none, .mov (.t p37)⟩, ⟨(some p39), (some (p38, true)), .mov (.t p0)⟩, ⟨(some p40), (some (p38, true)), .ld (some 2) (.t p6)⟩, ⟨(some p41), (some (p38, true)), .ld (some 4) (.t p7)⟩, ⟨(some p42), (some (p38, true)), .call (.t p39) [(.t p40), (.t p41)]⟩, ⟨(some p43), (some (p38, true)), .un .not (.t p42)⟩, ⟨(some p44), none, .pick (.t p38) (.t p43) (.c (.bool false))⟩] []) (.kill [p6, p7, p35, p36, p37, p38, p39, p40, p41, p42, p43] (.cond (.t p44) .ret .skip)))))))))) (.kill [p44] (.reg [⟨(some p22), none, .mov (.t p5)⟩, ⟨(some p23), none, .bin .add (.t p22) (.c (.int .i64 1))⟩, ⟨(some p5), none, .mov (.t p23)⟩] []))))))))) (.kill [p5, p21, p30] (.reg [⟨(some p14), none, .mov (.t p4)⟩, ⟨(some p15), none, .bin .add (.t p14) (.c (.int .i64 1))⟩, ⟨(some p4), none, .mov (.t p15)⟩] [])))))))) }
def a66 : AFunc := { params := [p0, p1, p2], init := i66, results := [.tmp p6, .cell (some 4) p7, .tmp p8], body := (.seq (.reg [⟨(some p4), none, .box (.t p1)⟩, ⟨(some p6), none, .mov (.c (.map none))⟩, ⟨(some p7), none, .zero [(.int .i64 0), (.int .i64 0), (.int .i64 0), (.int .i64 0)]⟩, ⟨(some p8), none, .mov (.c (.bool false))⟩] []) (.kill [p1, p6, p8] (.kill [] (.seq (.reg [⟨(some p18), none, .mkmap⟩, ⟨(some p19), none, .ld (some 4) (.t p4)⟩, ⟨(some p20), none, .build [(.int .i64 0), (.int .i64 0), (.int .i64 0), (.int .i64 0), (.int .i64 0), (.int .i64 0), (.int .i64 0)] []⟩, ⟨none, none, .mset [.int, .int, .int, .int] (.t p18) (.t p19) (.t p20)⟩, ⟨(some p21), none, .mov (.t p18)⟩, ⟨(some p9), none, .zero [(.map none)]⟩, ⟨none, none, .st 1 (.t p9) (.t p21)⟩] []) (.kill [p18, p19, p20, p21] (.seq (.reg [⟨(some p22), none, .ld (some 4) (.t p4)⟩, ⟨(some p23), none, .bslice 1 4 [(.int .i64 0), (.int .i64 0), (.int .i64 0), (.int .i64 0)] [(0, 4, (.t p22))]⟩, ⟨(some p10), none, .zero [(.slice none 0 0)]⟩, ⟨none, none, .st 1 (.t p10) (.t p23)⟩] []) (.kill [p4, p22, p23] (.seq (.reg [⟨(some p11), none, .zero [(.int .i64 0), (.int .i64 0), (.int .i64 0), (.int .i64 0)]⟩] []) (.seq (.reg [⟨(some p12), none, .mov (.c (.bool false))⟩] []) (.seq .skip (.seq (.block 0 (.loop (.seq (.seq (.reg [⟨(some p24), none, .ld none (.t p10)⟩, ⟨(some p25), none, .len 1 (.t p24)⟩, ⟨(some p26), none, .bin .gtr (.t p25) (.c (.int .i64 0))⟩] []) (.kill [p24, p25] (.cond (.t p26) .skip (.exit 0)))) (.kill [p26] (.block 1 (.seq (.reg [⟨(some p27), none, .ld none (.t p10)⟩, ⟨(some p28), none, .ias 4 (.t p27) (.c (.int .i64 0))⟩, ⟨(some p29), none, .ld (some 4) (.t p28)⟩, ⟨(some p13), none, .zero [(.int .i64 0), (.int .i64 0), (.int .i64 0), (.int .i64 0)]⟩, ⟨none, none, .st 4 (.t p13) (.t p29)⟩] []) (.kill [p27, p28, p29] (.seq (.reg [⟨(some p30), none, .ld none (.t p10)⟩, ⟨(some p31), none, .slsl 4 (.t p30) (some (.c (.int .i64 1))) none none⟩, ⟨none, none, .st 1 (.t p10) (.t p31)⟩] []) (.kill [p30, p31] (.seq (.seq (.reg [⟨(some p32), none, .mov (.t p2)⟩, ⟨(some p33), none, .ld (some 4) (.t p13)⟩, ⟨(some p34), none, .call (.t p32) [(.t p33)]⟩] []) (.kill [p32, p33] (.cond (.t p34) (.kill [p34] (.seq (.reg [⟨(some p35), none, .ld (some 4) (.t p13)⟩, ⟨none, none, .st 4 (.t p11) (.t p35)⟩, ⟨(some p12), none, .mov (.c (.bool true))⟩] []) (.kill [p13, p35] (.exit 0)))) .skip))) (.kill [p34] (.seq (.reg [⟨(some p36), none, .mov (.t p0)⟩, ⟨(some p37), none, .ld (some 4) (.t p13)⟩, ⟨(some p38), none, .call (.c (.func (.func 47) #[] #[])) [(.t p36), (.t p37)]⟩] []) (.kill [p36, p37] (.block 2 (.rangeF (.t p38) [p39, p40] (.seq (.reg [⟨(some p14), none, .zero [(.int .i64 0), (.int .i64 0)]⟩, ⟨none, none, .st 2 (.t p14) (.t p39)⟩] []) (.reg [⟨(some p15), none, .zero [(.int .i64 0), (.int .i64 0), (.int .i64 0), (.int .i64 0)]⟩, ⟨none, none, .st 4 (.t p15) (.t p40)⟩] [])) (.block 3 (.seq (.reg [⟨(some p42), none, .ld none (.t p9)⟩, ⟨(some p43), none, .ld (some 4) (.t p15)⟩, ⟨(some p44), none, .look true [.int, .int, .int, .int] (.agg #[(.int .i64 0), (.int .i64 0), (.int .i64 0), (.int .i64 0), (.int .i64 0), (.int .i64 0), (.int .i64 0)]) (.t p42) (.t p43)⟩, ⟨(some p41), none, .mov (.t p44)⟩, ⟨(some p45), none, .ext 0 (.t p41)⟩, ⟨(some p46), none, .ext 1 (.t p41)⟩, ⟨(some p16), none, .zero [(.int .i64 0), (.int .i64 0), (.int .i64 0), (.int .i64 0), (.int .i64 0), (.int .i64 0), (.int .i64 0)]⟩, ⟨none, none, .st 7 (.t p16) (.t p45)⟩, ⟨(some p17), none, .mov (.t p46)⟩] []) (.seq (.reg [⟨(some p47), none, .mov (.t p17)⟩, ⟨(some p48), none, .un .not (.t p47)⟩] []) (.cond (.t p48) (.seq (.reg [⟨(some p49), none, .ld none (.t p9)⟩, ⟨(some p50), none, .ld (some 4) (.t p15)⟩, ⟨(some p51), none, .ld (some 4) (.t p13)⟩, ⟨(some p52), none, .ld (some 2) (.t p14)⟩, ⟨(some p53), none, .ld none (.t p9)⟩, ⟨(some p54), none, .ld (some 4) (.t p13)⟩, ⟨(some p55), none, .look false [.int, .int, .int, .int] (.agg #[(.int .i64 0), (.int .i64 0), (.int .i64 0), (.int .i64 0), (.int .i64 0), (.int .i64 0), (.int .i64 0)]) (.t p53) (.t p54)⟩, ⟨(some p56), none, .fld none 6 (.t p55)⟩, ⟨(some p57), none, .bin .add (.t p56) (.c (.int .i64 1))⟩, ⟨(some p58), none, .build [(.int .i64 0), (.int .i64 0), (.int .i64 0), (.int .i64 0), (.int .i64 0), (.int .i64 0), (.int .i64 0)] [(0, 4, (.t p51)), (4, 2, (.t p52)), (6, 1, (.t p57))]⟩, ⟨none, none, .mset [.int, .int, .int, .int] (.t p49) (.t p50) (.t p58)⟩] []) (.reg [⟨(some p59), none, .ld none (.t p10)⟩, ⟨(some p60), none, .ld (some 4) (.t p15)⟩, ⟨(some p61), none, .bslice 1 4 [(.int .i64 0), (.int .i64 0), (.int .i64 0), (.int .i64 0)] [(0, 4, (.t p60))]⟩, ⟨(some p62), none, .app 4 (.t p59) (.t p61)⟩, ⟨none, none, .st 1 (.t p10) (.t p62)⟩] [])) .skip))))))))))))))))))) (.kill [p0, p2, p10, p14, p15, p16, p17, p26, p39, p40, p41, p42, p43, p44, p45, p46, p47, p48, p49, p50, p51, p52, p53, p54, p55, p56, p57, p58, p59, p60, p61, p62] (.seq (.reg [⟨(some p63), none, .ld none (.t p9)⟩, ⟨(some p64), none, .ld (some 4) (.t p11)⟩, ⟨(some p65), none, .mov (.t p12)⟩, ⟨(some p6), none, .mov (.t p63)⟩, ⟨none, none, .st 4 (.t p7) (.t p64)⟩, ⟨(some p8), none, .mov (.t p65)⟩] []) .ret))))))))))))) }
def a67 : AFunc := { params := [p0], init := i28, results := [], body := (.seq (.reg [⟨(some p4), none, .mov (.t p0)⟩, ⟨(some p5), none, .len 1 (.t p4)⟩, ⟨(some p6), none, .bin .sub (.t p5) (.c (.int .i64 1))⟩, ⟨(some p2), none, .mov (.c (.int .i64 0))⟩, ⟨(some p3), none, .mov (.t p6)⟩] []) (.kill [p4, p5, p6] (.block 0 (.loop (.seq (.seq (.reg [⟨(some p7), none, .mov (.t p2)⟩, ⟨(some p8), none, .mov (.t p3)⟩, ⟨(some p9), none, .bin .lss (.t p7) (.t p8)⟩] []) (.kill [p7, p8] (.cond (.t p9) .skip (.exit 0)))) (.kill [p9] (.seq (.block 1 (.reg [⟨(some p14), none, .mov (.t p0)⟩, ⟨(some p15), none, .mov (.t p2)⟩, ⟨(some p16), none, .mov (.t p0)⟩, ⟨(some p17), none, .mov (.t p3)⟩, ⟨(some p18), none, .mov (.t p0)⟩, ⟨(some p19), none, .mov (.t p3)⟩, ⟨(some p20), none, .ias 2 (.t p18) (.t p19)⟩, ⟨(some p21), none, .ld (some 2) (.t p20)⟩, ⟨(some p22), none, .mov (.t p0)⟩, ⟨(some p23), none, .mov (.t p2)⟩, ⟨(some p24), none, .ias 2 (.t p22) (.t p23)⟩, ⟨(some p25), none, .ld (some 2) (.t p24)⟩, ⟨(some p26), none, .ias 2 (.t p14) (.t p15)⟩, ⟨none, none, .st 2 (.t p26) (.t p21)⟩, ⟨(some p27), none, .ias 2 (.t p16) (.t p17)⟩, ⟨none, none, .st 2 (.t p27) (.t p25)⟩] [])) (.kill [p14, p15, p16, p17, p18, p19, p20, p21, p22, p23, p24, p25, p26, p27] (.reg [⟨(some p10), none, .mov (.t p2)⟩, ⟨(some p11), none, .bin .add (.t p10) (.c (.int .i64 1))⟩, ⟨(some p12), none, .mov (.t p3)⟩, ⟨(some p13), none, .bin .sub (.t p12) (.c (.int .i64 1))⟩, ⟨(some p2), none, .mov (.t p11)⟩, ⟨(some p3), none, .mov (.t p13)⟩] []))))))))) }
def a68 : AFunc := { params := [p0, p1], init := i34, results := [.cell (some 2) p4], body := (.seq (.reg [⟨(some p2), none, .box (.t p0)⟩, ⟨(some p3), none, .box (.t p1)⟩, ⟨(some p4), none, .zero [(.int .i64 0), (.int .i64 0)]⟩] []) (.kill [p0, p1] (.seq (.reg [⟨(some p6), none, .fad 6 (.t p2)⟩, ⟨(some p7), none, .ld none (.t p6)⟩, ⟨(some p8), none, .bin .sub (.c (.int .i64 1)) (.t p7)⟩, ⟨(some p5), none, .mov (.t p8)⟩] []) (.kill [p6, p7, p8] (.seq (.block 0 (.seq (.reg [⟨(some p10), none, .mov (.t p5)⟩, ⟨(some p11), none, .iad 4 1 (.t p3) (.t p10)⟩, ⟨(some p12), none, .ld none (.t p11)⟩, ⟨(some p13), none, .mov (.t p5)⟩, ⟨(some p14), none, .fad 0 (.t p2)⟩, ⟨(some p15), none, .fad 1 (.t p14)⟩, ⟨(some p16), none, .iad 4 1 (.t p15) (.t p13)⟩, ⟨(some p17), none, .ld none (.t p16)⟩, ⟨(some p18), none, .bin .eql (.t p12) (.t p17)⟩, ⟨(some p9), none, .mov (.t p18)⟩] []) (.kill [p10, p11, p12, p13, p14, p15, p16, p17, p18] (.cond (.t p9) (.kill [p9] (.seq (.reg [⟨(some p19), none, .mov (.t p5)⟩, ⟨(some p20), none, .build [(.int .i64 0), (.int .i64 0)] [(0, 1, (.t p19)), (1, 1, (.c (.int .i64 (-1))))]⟩, ⟨none, none, .st 2 (.t p4) (.t p20)⟩] []) .ret)) (.kill [p9] (.seq (.reg [⟨(some p22), none, .fad 6 (.t p2)⟩, ⟨(some p23), none, .ld none (.t p22)⟩, ⟨(some p24), none, .iad 4 1 (.t p3) (.t p23)⟩, ⟨(some p25), none, .ld none (.t p24)⟩, ⟨(some p26), none, .bin .eql (.t p25) (.c (.int .i64 0))⟩, ⟨(some p21), none, .mov (.t p26)⟩] []) (.kill [p3, p22, p23, p24, p25, p26] (.cond (.t p21) (.kill [p21] (.seq (.reg [⟨(some p27), none, .fad 6 (.t p2)⟩, ⟨(some p28), none, .ld none (.t p27)⟩, ⟨(some p29), none, .build [(.int .i64 0), (.int .i64 0)] [(0, 1, (.c (.int .i64 (-1)))), (1, 1, (.t p28))]⟩, ⟨none, none, .st 2 (.t p4) (.t p29)⟩] []) .ret)) .skip)))))))) (.kill [p9, p21] (.seq (.reg [⟨(some p30), none, .fad 6 (.t p2)⟩, ⟨(some p31), none, .ld none (.t p30)⟩, ⟨(some p32), none, .mov (.t p5)⟩, ⟨(some p33), none, .build [(.int .i64 0), (.int .i64 0)] [(0, 1, (.t p31)), (1, 1, (.t p32))]⟩, ⟨none, none, .st 2 (.t p4) (.t p33)⟩] []) .ret))))))) }
def a69 : AFunc := { params := [p0, p1, p2], init := i12, results := [.tmp p4], body := (.seq (.reg [⟨(some p3), none, .box (.t p0)⟩, ⟨(some p4), none, .mov (.c (.bool false))⟩] []) (.kill [p0, p4] (.seq (.reg [⟨(some p5), none, .ld none (.t p1)⟩, ⟨(some p6), none, .nilchk (.t p5)⟩, ⟨(some p7), none, .fad 0 (.t p6)⟩, ⟨(some p8), none, .ld none (.t p7)⟩, ⟨(some p9), none, .slarr 4 1 (.t p3) none (some (.t p8)) none⟩, ⟨(some p10), none, .ld none (.t p2)⟩, ⟨(some p11), none, .call (.c (.func (.func 70) #[] #[])) [(.t p9), (.t p10)]⟩, ⟨(some p4), none, .mov (.t p11)⟩] []) .ret))) }
def a70 : AFunc := { params := [p0, p1], init := i9, results := [.tmp p4], body := (.seq (.reg [⟨(some p4), none, .mov (.c (.bool false))⟩] []) (.kill [p4] (.seq (.reg [⟨(some p5), none, .mov (.t p0)⟩, ⟨(some p6), none, .mov (.t p1)⟩, ⟨(some p7), none, .call (.c (.func (.func 73) #[] #[])) [(.t p5), (.t p6)]⟩, ⟨(some p8), none, .bin .geq (.t p7) (.c (.int .i64 0))⟩, ⟨(some p4), none, .mov (.t p8)⟩] []) .ret))) }
def a71 : AFunc := { params := [p0], init := i3, results := [.tmp p2], body := (.seq (.reg [⟨(some p1), none, .box (.t p0)⟩, ⟨(some p2), none, .mov (.c (.bool false))⟩] []) (.kill [p0, p1, p2] (.seq (.reg [⟨(some p2), none, .mov (.c (.bool false))⟩] []) .ret))) }
def a72 : AFunc := { params := [p0, p1], init := i14, results := [.tmp p3], body := (.seq (.reg [⟨(some p3), none, .mov (.c (.bool false))⟩] []) (.kill [p3] (.seq (.reg [⟨(some p4), none, .mov (.t p0)⟩, ⟨(some p5), none, .bin .geq (.t p4) (.c (.int .i64 (-1)))⟩, ⟨(some p6), none, .mov (.t p5)⟩, ⟨(some p7), (some (p6, true)), .mov (.t p0)⟩, ⟨(some p8), (some (p6, true)), .ld none (.t p1)⟩, ⟨(some p9), (some (p6, true)), .nilchk (.t p8)⟩, ⟨(some p10), (some (p6, true)), .fad 0 (.t p9)⟩, ⟨(some p11), (some (p6, true)), .ld none (.t p10)⟩, ⟨(some p12), (some (p6, true)), .bin .lss (.t p7) (.t p11)⟩, ⟨(some p13), none, .pick (.t p6) (.t p12) (.c (.bool false))⟩, ⟨(some p3), none, .mov (.t p13)⟩] []) .ret))) }
def a73 : AFunc := { params := [p0, p1], init := i19, results := [.tmp p4], body := (.seq (.reg [⟨(some p4), none, .mov (.c (.int .i64 0))⟩] []) (.kill [p4] (.seq (.seq (.reg [⟨(some p6), none, .mov (.t p0)⟩, ⟨(some p7), none, .len 1 (.t p6)⟩, ⟨(some p8), none, .mov (.c (.int .i64 0))⟩] []) (.kill [p6] (.block 0 (.loop (.seq (.reg [⟨(some p9), none, .bin .lss (.t p8) (.t p7)⟩] []) (.seq (.cond (.t p9) .skip (.exit 0)) (.kill [p9] (.seq (.block 1 (.seq (.reg [⟨(some p10), none, .mov (.t p8)⟩, ⟨(some p5), none, .mov (.t p10)⟩] []) (.kill [p10] (.seq (.reg [⟨(some p11), none, .mov (.t p1)⟩, ⟨(some p12), none, .mov (.t p0)⟩, ⟨(some p13), none, .mov (.t p5)⟩, ⟨(some p14), none, .ias 1 (.t p12) (.t p13)⟩, ⟨(some p15), none, .ld none (.t p14)⟩, ⟨(some p16), none, .bin .eql (.t p11) (.t p15)⟩] []) (.kill [p11, p12, p13, p14, p15] (.cond (.t p16) (.kill [p16] (.seq (.reg [⟨(some p17), none, .mov (.t p5)⟩, ⟨(some p4), none, .mov (.t p17)⟩] []) .ret)) .skip)))))) (.kill [p16] (.reg [⟨(some p18), none, .bin .add (.t p8) (.c (.int .i64 1))⟩, ⟨(some p8), none, .mov (.t p18)⟩] [])))))))))) (.kill [p0, p1, p7, p8, p9] (.seq (.reg [⟨(some p4), none, .mov (.c (.int .i64 (-1)))⟩] []) .ret))))) }
def tbl : Tr AFunc := (.nd none (.nd none (.nd (some a3) (.nd (some a7) (.nd (some a15) (.nd (some a31) (.nd (some a63) .lf .lf) .lf) (.nd (some a47) .lf .lf)) (.nd (some a23) (.nd (some a39) (.nd (some a71) .lf .lf) .lf) (.nd (some a55) .lf .lf))) (.nd (some a11) (.nd (some a19) (.nd (some a35) (.nd (some a67) .lf .lf) .lf) (.nd (some a51) .lf .lf)) (.nd (some a27) (.nd (some a43) .lf .lf) (.nd (some a59) .lf .lf)))) (.nd (some a5) (.nd (some a9) (.nd (some a17) (.nd (some a33) (.nd (some a65) .lf .lf) .lf) (.nd (some a49) .lf .lf)) (.nd (some a25) (.nd (some a41) (.nd (some a73) .lf .lf) .lf) (.nd (some a57) .lf .lf))) (.nd (some a13) (.nd (some a21) (.nd (some a37) (.nd (some a69) .lf .lf) .lf) (.nd (some a53) .lf .lf)) (.nd (some a29) (.nd (some a45) .lf .lf) (.nd (some a61) .lf .lf))))) (.nd (some a2) (.nd (some a4) (.nd (some a8) (.nd (some a16) (.nd (some a32) (.nd (some a64) .lf .lf) .lf) (.nd (some a48) .lf .lf)) (.nd (some a24) (.nd (some a40) (.nd (some a72) .lf .lf) .lf) (.nd (some a56) .lf .lf))) (.nd (some a12) (.nd (some a20) (.nd (some a36) (.nd (some a68) .lf .lf) .lf) (.nd (some a52) .lf .lf)) (.nd (some a28) (.nd (some a44) .lf .lf) (.nd (some a60) .lf .lf)))) (.nd (some a6) (.nd (some a10) (.nd (some a18) (.nd (some a34) (.nd (some a66) .lf .lf) .lf) (.nd (some a50) .lf .lf)) (.nd (some a26) (.nd (some a42) .lf .lf) (.nd (some a58) .lf .lf))) (.nd (some a14) (.nd (some a22) (.nd (some a38) (.nd (some a70) .lf .lf) .lf) (.nd (some a54) .lf .lf)) (.nd (some a30) (.nd (some a46) .lf .lf) (.nd (some a62) .lf .lf))))))
end
end Go.Ab.Jug

namespace Go.Ab.Jug
set_option maxRecDepth 100000
open Go.Ab.V
end Go.Ab.Jug

namespace Go.Ab.Jug
set_option maxRecDepth 1000000
noncomputable section
def cfg0 : Cfg := { fn := fun f => Tr.get tbl f, orc := fun _ _ => none, pick := fun _ => 0 }
theorem fit : Tr.allB (fitB Go.Proofs.Try.prog) tbl (fun n => n) = true := by decide +kernel
theorem tab0 : TabOK Go.Proofs.Try.prog cfg0 := tabOK (t := tbl) (fun _ _ h => h) fit
theorem mixed : Go.Proofs.Try.prog.follows .mixedOrders = true := by decide +kernel
end
end Go.Ab.Jug

namespace Go.Ab.Jug
open Go.Ab.V
set_option maxRecDepth 100000
noncomputable section
def cfg : Cfg := withOrc cfg0 20 (.bool true)
end
theorem no_orc (f : Nat) (h : f ≠ 20) (l : List Value) : cfg.orc f l = none := by
  have : Nat.beq f 20 = false := by cases hb : Nat.beq f 20 with
    | false => rfl
    | true => exact absurd (Nat.eq_of_beq_eq_true hb) h
  show (bif Nat.beq f 20 && l.isEmpty then some (Value.bool true) else none) = none
  rw [this]; rfl

theorem ints_ok (a b : List Int) (ha : a.length ≤ 9223372036854775807) : VCall cfg 33 [sl1 a, sl1 b] [] [] (vb (decide (a = b))) [] := by
  (refine VCall.mk (fn := a33) rfl rfl rfl ?_; simp only [a33, inV, mkB, nmsL, PT.set])
  (repeat (first | refine VC.seq ?_ | refine VC.block ?_ | refine VC.kill ?_ | refine VC.skip ?_ | refine VC.exit ?_ | refine VC.regA ?_ | refine VC.condT ?_ | refine VC.condF ?_))
  refine VC.condA ?_ ?_ <;> intro h <;> (simp only [decide_eq_true_eq, decide_eq_false_iff_not, bne_iff_ne, ne_eq, bne_eq_false_iff_eq, beq_iff_eq, beq_eq_false_iff_ne, Bool.not_eq_true', Bool.not_eq_false', Bool.and_eq_true, Bool.or_eq_true, Int.natCast_inj] at h)
  · (repeat (first | refine VC.seq ?_ | refine VC.block ?_ | refine VC.kill ?_ | refine VC.skip ?_ | refine VC.exit ?_ | refine VC.regA ?_ | refine VC.condT ?_ | refine VC.condF ?_))
    refine VC.ret (Fin.A ?_)
    rw [decide_eq_false (by intro e; rw [e] at h; exact h rfl)]; rfl
  · (repeat (first | refine VC.seq ?_ | refine VC.block ?_ | refine VC.kill ?_ | refine VC.skip ?_ | refine VC.exit ?_ | refine VC.regA ?_ | refine VC.condT ?_ | refine VC.condF ?_))
    have hl : a.length = b.length := by omega
    refine VC.loopG (fun (i : Nat) => ⟨inV [p0, p1, p5] [sl1 a, sl1 b, vi i] .lf, .lf, [], none⟩) (fun n i => n = a.length - i ∧ i ≤ a.length ∧ a.take i = b.take i) (x := 0) ?_ ⟨rfl, by omega, rfl⟩ ?_
    · (apply G.weak; constructor <;> simp (config := {decide := true}) only [PT.Le, inV, mkB, PT.set, VSt.kill, VSt.adopt, VSt.alloc, PT.filt, PT.map, List.map_cons, List.map_nil, noref, norefB, deadB, deadV, nos, nm, nmL, nmB, nmE, Pa.eqb, cond_true, cond_false, Bool.not_true, Bool.not_false, Bool.and_true, Bool.true_and, nmL_vi, flV_len, flP_len, flV_nm, flV_ok, flV_pv, flP_map, drop_flP, drop_flV, putC_flV, eqV2, eqV3, bneT, bneF, decide_true, decide_false, frzL_vi, frzL_flV, eqV_slice, eqV_ptr, eqV_func, nilS, nilP, nilF, nmL_append, true_or, or_true, and_self, true_and, and_true, Option.some.injEq, reduceCtorEq, false_or, or_false, VV.p.injEq, PV.at.injEq, Value.int.injEq, sl1, vi, bl1, vb, nilV])
    rintro n i ⟨hn, hi, he⟩
    simp only [inV, PT.set]
    (repeat (first | refine VC.seq ?_ | refine VC.block ?_ | refine VC.kill ?_ | refine VC.skip ?_ | refine VC.exit ?_ | refine VC.regA ?_ | refine VC.condT ?_ | refine VC.condF ?_))
    refine VC.condA ?_ ?_ <;> intro h <;> (simp only [decide_eq_true_eq, decide_eq_false_iff_not, bne_iff_ne, ne_eq, bne_eq_false_iff_eq, beq_iff_eq, beq_eq_false_iff_ne, Bool.not_eq_true', Bool.not_eq_false', Bool.and_eq_true, Bool.or_eq_true, Int.natCast_inj] at h)
    · have h : i < a.length := by omega
      (repeat (first | refine VC.seq ?_ | refine VC.block ?_ | refine VC.kill ?_ | refine VC.skip ?_ | refine VC.exit ?_ | refine VC.regA ?_ | refine VC.condT ?_ | refine VC.condF ?_))
      refine VC.condA ?_ ?_ <;> intro h2 <;> (simp only [decide_eq_true_eq, decide_eq_false_iff_not, bne_iff_ne, ne_eq, bne_eq_false_iff_eq, beq_iff_eq, beq_eq_false_iff_ne, Bool.not_eq_true', Bool.not_eq_false', Bool.and_eq_true, Bool.or_eq_true, Int.natCast_inj] at h2)
      · (repeat (first | refine VC.seq ?_ | refine VC.block ?_ | refine VC.kill ?_ | refine VC.skip ?_ | refine VC.exit ?_ | refine VC.regA ?_ | refine VC.condT ?_ | refine VC.condF ?_))
        refine VC.ret (Fin.A ?_)
        rw [decide_eq_false (by intro e; subst e; exact h2 rfl)]; rfl
      · (repeat (first | refine VC.seq ?_ | refine VC.block ?_ | refine VC.kill ?_ | refine VC.skip ?_ | refine VC.exit ?_ | refine VC.regA ?_ | refine VC.condT ?_ | refine VC.condF ?_))
        refine ⟨_, i + 1, ?_, ⟨rfl, by omega, ?_⟩, ?_⟩
        · omega
        · rw [List.take_add_one, List.take_add_one, List.getElem?_eq_getElem h, List.getElem?_eq_getElem (by omega : i < b.length), he]
          have : a[i] = b[i] := by simpa using h2
          rw [this]
        · (apply G.weak; constructor <;> simp (config := {decide := true}) only [PT.Le, inV, mkB, PT.set, VSt.kill, VSt.adopt, VSt.alloc, PT.filt, PT.map, List.map_cons, List.map_nil, noref, norefB, deadB, deadV, nos, nm, nmL, nmB, nmE, Pa.eqb, cond_true, cond_false, Bool.not_true, Bool.not_false, Bool.and_true, Bool.true_and, nmL_vi, flV_len, flP_len, flV_nm, flV_ok, flV_pv, flP_map, drop_flP, drop_flV, putC_flV, eqV2, eqV3, bneT, bneF, decide_true, decide_false, frzL_vi, frzL_flV, eqV_slice, eqV_ptr, eqV_func, nilS, nilP, nilF, nmL_append, true_or, or_true, and_self, true_and, and_true, Option.some.injEq, reduceCtorEq, false_or, or_false, VV.p.injEq, PV.at.injEq, Value.int.injEq, sl1, vi, bl1, vb, nilV]); rfl
    · (repeat (first | refine VC.seq ?_ | refine VC.block ?_ | refine VC.kill ?_ | refine VC.skip ?_ | refine VC.exit ?_ | refine VC.regA ?_ | refine VC.condT ?_ | refine VC.condF ?_))
      refine VC.ret (Fin.A ?_)
      rw [List.take_of_length_le (by omega), List.take_of_length_le (by omega)] at he
      rw [decide_eq_true he]; rfl

def maxL (a : List Int) : Int := a.foldl max (a.headD 0)
def minL (a : List Int) : Int := a.foldl min (a.headD 0)

theorem Max_ok (a : List Int) (h0 : 0 < a.length) (hl : a.length ≤ 9223372036854775807) : VCall cfg 57 [sl1 a] [] [] (vi (maxL a)) [] := by
  have hh : a[0] = a.headD 0 := by cases a <;> simp at h0 ⊢
  (refine VCall.mk (fn := a57) rfl rfl rfl ?_; simp only [a57, inV, mkB, nmsL, PT.set])
  (repeat (first | refine VC.seq ?_ | refine VC.block ?_ | refine VC.kill ?_ | refine VC.skip ?_ | refine VC.exit ?_ | refine VC.regA ?_ | refine VC.condT ?_ | refine VC.condF ?_))
  refine VC.loopG (fun (i : Nat) => ⟨inV [p0, p3, p4] [sl1 a, vi ((a.take i).foldl max a[0]), vi i] .lf, .lf, [], none⟩) (fun n i => n = a.length - i ∧ 1 ≤ i ∧ i ≤ a.length) (x := 1) ?_ ⟨rfl, by omega, by omega⟩ ?_
  · (apply G.weak; constructor <;> simp (config := {decide := true}) only [PT.Le, inV, mkB, PT.set, VSt.kill, VSt.adopt, VSt.alloc, PT.filt, PT.map, List.map_cons, List.map_nil, noref, norefB, deadB, deadV, nos, nm, nmL, nmB, nmE, Pa.eqb, cond_true, cond_false, Bool.not_true, Bool.not_false, Bool.and_true, Bool.true_and, nmL_vi, flV_len, flP_len, flV_nm, flV_ok, flV_pv, flP_map, drop_flP, drop_flV, putC_flV, eqV2, eqV3, bneT, bneF, decide_true, decide_false, frzL_vi, frzL_flV, eqV_slice, eqV_ptr, eqV_func, nilS, nilP, nilF, nmL_append, true_or, or_true, and_self, true_and, and_true, Option.some.injEq, reduceCtorEq, false_or, or_false, VV.p.injEq, PV.at.injEq, Value.int.injEq, sl1, vi, bl1, vb, nilV]); cases a <;> simp at h0 ⊢
  rintro n i ⟨hn, h1, hi⟩
  simp only [inV, PT.set]
  (repeat (first | refine VC.seq ?_ | refine VC.block ?_ | refine VC.kill ?_ | refine VC.skip ?_ | refine VC.exit ?_ | refine VC.regA ?_ | refine VC.condT ?_ | refine VC.condF ?_))
  refine VC.condA ?_ ?_ <;> intro h <;> (simp only [decide_eq_true_eq, decide_eq_false_iff_not, bne_iff_ne, ne_eq, bne_eq_false_iff_eq, beq_iff_eq, beq_eq_false_iff_ne, Bool.not_eq_true', Bool.not_eq_false', Bool.and_eq_true, Bool.or_eq_true, Int.natCast_inj] at h)
  · have h : i < a.length := by omega
    (repeat (first | refine VC.seq ?_ | refine VC.block ?_ | refine VC.kill ?_ | refine VC.skip ?_ | refine VC.exit ?_ | refine VC.regA ?_ | refine VC.condT ?_ | refine VC.condF ?_))
    refine ⟨_, i + 1, ?_, ⟨rfl, by omega, by omega⟩, ?_⟩
    · omega
    · (apply G.weak; constructor <;> simp (config := {decide := true}) only [PT.Le, inV, mkB, PT.set, VSt.kill, VSt.adopt, VSt.alloc, PT.filt, PT.map, List.map_cons, List.map_nil, noref, norefB, deadB, deadV, nos, nm, nmL, nmB, nmE, Pa.eqb, cond_true, cond_false, Bool.not_true, Bool.not_false, Bool.and_true, Bool.true_and, nmL_vi, flV_len, flP_len, flV_nm, flV_ok, flV_pv, flP_map, drop_flP, drop_flV, putC_flV, eqV2, eqV3, bneT, bneF, decide_true, decide_false, frzL_vi, frzL_flV, eqV_slice, eqV_ptr, eqV_func, nilS, nilP, nilF, nmL_append, true_or, or_true, and_self, true_and, and_true, Option.some.injEq, reduceCtorEq, false_or, or_false, VV.p.injEq, PV.at.injEq, Value.int.injEq, sl1, vi, bl1, vb, nilV])
      rw [List.take_add_one, List.getElem?_eq_getElem h, List.foldl_append]; exact ⟨rfl, by omega⟩
  · (repeat (first | refine VC.seq ?_ | refine VC.block ?_ | refine VC.kill ?_ | refine VC.skip ?_ | refine VC.exit ?_ | refine VC.regA ?_ | refine VC.condT ?_ | refine VC.condF ?_))
    refine VC.ret (Fin.A ?_)
    rw [List.take_of_length_le (by omega), hh]; rfl
theorem Min_ok (a : List Int) (h0 : 0 < a.length) (hl : a.length ≤ 9223372036854775807) : VCall cfg 64 [sl1 a] [] [] (vi (minL a)) [] := by
  have hh : a[0] = a.headD 0 := by cases a <;> simp at h0 ⊢
  (refine VCall.mk (fn := a64) rfl rfl rfl ?_; simp only [a64, inV, mkB, nmsL, PT.set])
  (repeat (first | refine VC.seq ?_ | refine VC.block ?_ | refine VC.kill ?_ | refine VC.skip ?_ | refine VC.exit ?_ | refine VC.regA ?_ | refine VC.condT ?_ | refine VC.condF ?_))
  refine VC.loopG (fun (i : Nat) => ⟨inV [p0, p3, p4] [sl1 a, vi ((a.take i).foldl min a[0]), vi i] .lf, .lf, [], none⟩) (fun n i => n = a.length - i ∧ 1 ≤ i ∧ i ≤ a.length) (x := 1) ?_ ⟨rfl, by omega, by omega⟩ ?_
  · (apply G.weak; constructor <;> simp (config := {decide := true}) only [PT.Le, inV, mkB, PT.set, VSt.kill, VSt.adopt, VSt.alloc, PT.filt, PT.map, List.map_cons, List.map_nil, noref, norefB, deadB, deadV, nos, nm, nmL, nmB, nmE, Pa.eqb, cond_true, cond_false, Bool.not_true, Bool.not_false, Bool.and_true, Bool.true_and, nmL_vi, flV_len, flP_len, flV_nm, flV_ok, flV_pv, flP_map, drop_flP, drop_flV, putC_flV, eqV2, eqV3, bneT, bneF, decide_true, decide_false, frzL_vi, frzL_flV, eqV_slice, eqV_ptr, eqV_func, nilS, nilP, nilF, nmL_append, true_or, or_true, and_self, true_and, and_true, Option.some.injEq, reduceCtorEq, false_or, or_false, VV.p.injEq, PV.at.injEq, Value.int.injEq, sl1, vi, bl1, vb, nilV]); cases a <;> simp at h0 ⊢
  rintro n i ⟨hn, h1, hi⟩
  simp only [inV, PT.set]
  (repeat (first | refine VC.seq ?_ | refine VC.block ?_ | refine VC.kill ?_ | refine VC.skip ?_ | refine VC.exit ?_ | refine VC.regA ?_ | refine VC.condT ?_ | refine VC.condF ?_))
  refine VC.condA ?_ ?_ <;> intro h <;> (simp only [decide_eq_true_eq, decide_eq_false_iff_not, bne_iff_ne, ne_eq, bne_eq_false_iff_eq, beq_iff_eq, beq_eq_false_iff_ne, Bool.not_eq_true', Bool.not_eq_false', Bool.and_eq_true, Bool.or_eq_true, Int.natCast_inj] at h)
  · have h : i < a.length := by omega
    (repeat (first | refine VC.seq ?_ | refine VC.block ?_ | refine VC.kill ?_ | refine VC.skip ?_ | refine VC.exit ?_ | refine VC.regA ?_ | refine VC.condT ?_ | refine VC.condF ?_))
    refine ⟨_, i + 1, ?_, ⟨rfl, by omega, by omega⟩, ?_⟩
    · omega
    · (apply G.weak; constructor <;> simp (config := {decide := true}) only [PT.Le, inV, mkB, PT.set, VSt.kill, VSt.adopt, VSt.alloc, PT.filt, PT.map, List.map_cons, List.map_nil, noref, norefB, deadB, deadV, nos, nm, nmL, nmB, nmE, Pa.eqb, cond_true, cond_false, Bool.not_true, Bool.not_false, Bool.and_true, Bool.true_and, nmL_vi, flV_len, flP_len, flV_nm, flV_ok, flV_pv, flP_map, drop_flP, drop_flV, putC_flV, eqV2, eqV3, bneT, bneF, decide_true, decide_false, frzL_vi, frzL_flV, eqV_slice, eqV_ptr, eqV_func, nilS, nilP, nilF, nmL_append, true_or, or_true, and_self, true_and, and_true, Option.some.injEq, reduceCtorEq, false_or, or_false, VV.p.injEq, PV.at.injEq, Value.int.injEq, sl1, vi, bl1, vb, nilV])
      rw [List.take_add_one, List.getElem?_eq_getElem h, List.foldl_append]; exact ⟨rfl, by omega⟩
  · (repeat (first | refine VC.seq ?_ | refine VC.block ?_ | refine VC.kill ?_ | refine VC.skip ?_ | refine VC.exit ?_ | refine VC.regA ?_ | refine VC.condT ?_ | refine VC.condF ?_))
    refine VC.ret (Fin.A ?_)
    rw [List.take_of_length_le (by omega), hh]; rfl

def gcdL (a : List Int) : Nat := (a.map Int.toNat).foldl Nat.gcd 0
theorem gcdL_succ {a : List Int} {i : Nat} (h : i < a.length) : gcdL (a.take (i + 1)) = Nat.gcd (gcdL (a.take i)) a[i].toNat := by
  unfold gcdL; rw [take_map_succ h, List.foldl_append]; rfl
theorem gcd_step (x y : Nat) : Nat.gcd y (x % y) = Nat.gcd x y := by rw [Nat.gcd_comm y, ← Nat.gcd_rec, Nat.gcd_comm]
theorem divisor_ok (a : List Int) (hp : ∀ x ∈ a, 0 ≤ x) (hl : a.length ≤ 9223372036854775807) : VCall cfg 58 [sl1 a] [] [] (vi (gcdL a)) [] := by
  (refine VCall.mk (fn := a58) rfl rfl rfl ?_; simp only [a58, inV, mkB, nmsL, PT.set])
  (repeat (first | refine VC.seq ?_ | refine VC.block ?_ | refine VC.kill ?_ | refine VC.skip ?_ | refine VC.exit ?_ | refine VC.regA ?_ | refine VC.condT ?_ | refine VC.condF ?_))
  refine VC.loopG (fun (i : Nat) => ⟨inV [p3, p6, p7, p8] [vi (gcdL (a.take i)), sl1 a, vi a.length, vi i] .lf, .lf, [], none⟩) (fun n i => n = a.length - i ∧ i ≤ a.length) (x := 0) ?_ ⟨rfl, by omega⟩ ?_
  · (apply G.weak; constructor <;> simp (config := {decide := true}) only [PT.Le, inV, mkB, PT.set, VSt.kill, VSt.adopt, VSt.alloc, PT.filt, PT.map, List.map_cons, List.map_nil, noref, norefB, deadB, deadV, nos, nm, nmL, nmB, nmE, Pa.eqb, cond_true, cond_false, Bool.not_true, Bool.not_false, Bool.and_true, Bool.true_and, nmL_vi, flV_len, flP_len, flV_nm, flV_ok, flV_pv, flP_map, drop_flP, drop_flV, putC_flV, eqV2, eqV3, bneT, bneF, decide_true, decide_false, frzL_vi, frzL_flV, eqV_slice, eqV_ptr, eqV_func, nilS, nilP, nilF, nmL_append, true_or, or_true, and_self, true_and, and_true, Option.some.injEq, reduceCtorEq, false_or, or_false, VV.p.injEq, PV.at.injEq, Value.int.injEq, sl1, vi, bl1, vb, nilV]); rfl
  rintro n i ⟨hn, hi⟩
  simp only [inV, PT.set]
  (repeat (first | refine VC.seq ?_ | refine VC.block ?_ | refine VC.kill ?_ | refine VC.skip ?_ | refine VC.exit ?_ | refine VC.regA ?_ | refine VC.condT ?_ | refine VC.condF ?_))
  refine VC.condA ?_ ?_ <;> intro h <;> (simp only [decide_eq_true_eq, decide_eq_false_iff_not, bne_iff_ne, ne_eq, bne_eq_false_iff_eq, beq_iff_eq, beq_eq_false_iff_ne, Bool.not_eq_true', Bool.not_eq_false', Bool.and_eq_true, Bool.or_eq_true, Int.natCast_inj] at h)
  · have h : i < a.length := by omega
    have ha0 := hp _ (List.getElem_mem h)
    (repeat (first | refine VC.seq ?_ | refine VC.block ?_ | refine VC.kill ?_ | refine VC.skip ?_ | refine VC.exit ?_ | refine VC.regA ?_ | refine VC.condT ?_ | refine VC.condF ?_))
    refine VC.loopG (fun q : Nat × Nat => ⟨inV [p3, p5, p6, p7, p8] [vi q.1, vi q.2, sl1 a, vi a.length, vi i] .lf, .lf, [], none⟩) (fun n q => n = q.2 ∧ Nat.gcd q.1 q.2 = gcdL (a.take (i + 1))) (x := (gcdL (a.take i), a[i].toNat)) ?_ ⟨rfl, (gcdL_succ h).symm⟩ ?_
    · (apply G.weak; constructor <;> simp (config := {decide := true}) only [PT.Le, inV, mkB, PT.set, VSt.kill, VSt.adopt, VSt.alloc, PT.filt, PT.map, List.map_cons, List.map_nil, noref, norefB, deadB, deadV, nos, nm, nmL, nmB, nmE, Pa.eqb, cond_true, cond_false, Bool.not_true, Bool.not_false, Bool.and_true, Bool.true_and, nmL_vi, flV_len, flP_len, flV_nm, flV_ok, flV_pv, flP_map, drop_flP, drop_flV, putC_flV, eqV2, eqV3, bneT, bneF, decide_true, decide_false, frzL_vi, frzL_flV, eqV_slice, eqV_ptr, eqV_func, nilS, nilP, nilF, nmL_append, true_or, or_true, and_self, true_and, and_true, Option.some.injEq, reduceCtorEq, false_or, or_false, VV.p.injEq, PV.at.injEq, Value.int.injEq, sl1, vi, bl1, vb, nilV]); omega
    rintro n ⟨x, y⟩ ⟨hn2, he⟩
    simp only at hn2 he
    simp only [inV, PT.set]
    (repeat (first | refine VC.seq ?_ | refine VC.block ?_ | refine VC.kill ?_ | refine VC.skip ?_ | refine VC.exit ?_ | refine VC.regA ?_ | refine VC.condT ?_ | refine VC.condF ?_))
    refine VC.condA ?_ ?_ <;> intro h2 <;> (simp only [decide_eq_true_eq, decide_eq_false_iff_not, bne_iff_ne, ne_eq, bne_eq_false_iff_eq, beq_iff_eq, beq_eq_false_iff_ne, Bool.not_eq_true', Bool.not_eq_false', Bool.and_eq_true, Bool.or_eq_true, Int.natCast_inj] at h2)
    · (repeat (first | refine VC.seq ?_ | refine VC.block ?_ | refine VC.kill ?_ | refine VC.skip ?_ | refine VC.exit ?_ | refine VC.regA ?_ | refine VC.condT ?_ | refine VC.condF ?_))
      refine ⟨_, (y, x % y), ?_, ⟨rfl, (gcd_step x y).trans he⟩, ?_⟩
      · rw [hn2]; exact Nat.mod_lt _ (by omega)
      · (apply G.weak; constructor <;> simp (config := {decide := true}) only [PT.Le, inV, mkB, PT.set, VSt.kill, VSt.adopt, VSt.alloc, PT.filt, PT.map, List.map_cons, List.map_nil, noref, norefB, deadB, deadV, nos, nm, nmL, nmB, nmE, Pa.eqb, cond_true, cond_false, Bool.not_true, Bool.not_false, Bool.and_true, Bool.true_and, nmL_vi, flV_len, flP_len, flV_nm, flV_ok, flV_pv, flP_map, drop_flP, drop_flV, putC_flV, eqV2, eqV3, bneT, bneF, decide_true, decide_false, frzL_vi, frzL_flV, eqV_slice, eqV_ptr, eqV_func, nilS, nilP, nilF, nmL_append, true_or, or_true, and_self, true_and, and_true, Option.some.injEq, reduceCtorEq, false_or, or_false, VV.p.injEq, PV.at.injEq, Value.int.injEq, sl1, vi, bl1, vb, nilV]); omega
    · have hy0 : y = 0 := by omega
      subst hy0
      (repeat (first | refine VC.seq ?_ | refine VC.block ?_ | refine VC.kill ?_ | refine VC.skip ?_ | refine VC.exit ?_ | refine VC.regA ?_ | refine VC.condT ?_ | refine VC.condF ?_))
      refine ⟨_, i + 1, ?_, ⟨rfl, by omega⟩, ?_⟩
      · omega
      · (apply G.weak; constructor <;> simp (config := {decide := true}) only [PT.Le, inV, mkB, PT.set, VSt.kill, VSt.adopt, VSt.alloc, PT.filt, PT.map, List.map_cons, List.map_nil, noref, norefB, deadB, deadV, nos, nm, nmL, nmB, nmE, Pa.eqb, cond_true, cond_false, Bool.not_true, Bool.not_false, Bool.and_true, Bool.true_and, nmL_vi, flV_len, flP_len, flV_nm, flV_ok, flV_pv, flP_map, drop_flP, drop_flV, putC_flV, eqV2, eqV3, bneT, bneF, decide_true, decide_false, frzL_vi, frzL_flV, eqV_slice, eqV_ptr, eqV_func, nilS, nilP, nilF, nmL_append, true_or, or_true, and_self, true_and, and_true, Option.some.injEq, reduceCtorEq, false_or, or_false, VV.p.injEq, PV.at.injEq, Value.int.injEq, sl1, vi, bl1, vb, nilV]); simp only [Nat.gcd_zero_right] at he; omega
  · (repeat (first | refine VC.seq ?_ | refine VC.block ?_ | refine VC.kill ?_ | refine VC.skip ?_ | refine VC.exit ?_ | refine VC.regA ?_ | refine VC.condT ?_ | refine VC.condF ?_))
    refine VC.ret (Fin.A ?_)
    rw [List.take_of_length_le (by omega)]; rfl

def okJ (a : List Int) : Prop := 1 ≤ a.length ∧ a.length ≤ 4 ∧ 1 ≤ minL a ∧ maxL a ≤ 12
instance (a : List Int) : Decidable (okJ a) := by unfold okJ; infer_instance
theorem Check_ok (a : List Int) (hl : a.length ≤ 9223372036854775807) : VCall cfg 43 [sl1 a] [] [] (vi (if okJ a then 0 else 20)) [] := by
  (refine VCall.mk (fn := a43) rfl rfl rfl ?_; simp only [a43, inV, mkB, nmsL, PT.set])
  by_cases h1 : a.length < 1
  · (repeat (first | refine VC.seq ?_ | refine VC.block ?_ | refine VC.kill ?_ | refine VC.skip ?_ | refine VC.exit ?_ | refine VC.regA ?_ | refine VC.condT ?_ | refine VC.condF ?_))
    refine VC.ret (Fin.A ?_); rw [if_neg (by unfold okJ; omega)]; rfl
  by_cases h2 : 4 < a.length
  · (repeat (first | refine VC.seq ?_ | refine VC.block ?_ | refine VC.kill ?_ | refine VC.skip ?_ | refine VC.exit ?_ | refine VC.regA ?_ | refine VC.condT ?_ | refine VC.condF ?_))
    refine VC.ret (Fin.A ?_); rw [if_neg (by unfold okJ; omega)]; rfl
  (repeat (first | refine VC.seq ?_ | refine VC.block ?_ | refine VC.kill ?_ | refine VC.skip ?_ | refine VC.exit ?_ | refine VC.regA ?_ | refine VC.condT ?_ | refine VC.condF ?_))
  refine VC.regCA ?_
  refine VO.call0A (no_orc 64 (by decide)) (Min_ok a (by omega) hl) ?_
  by_cases h3 : minL a < 1
  · refine VO.endA ?_
    (repeat (first | refine VC.seq ?_ | refine VC.block ?_ | refine VC.kill ?_ | refine VC.skip ?_ | refine VC.exit ?_ | refine VC.regA ?_ | refine VC.condT ?_ | refine VC.condF ?_))
    refine VC.ret (Fin.A ?_); rw [if_neg (by unfold okJ; omega)]; rfl
  refine VO.moreA ?_
  refine VO.call0A (no_orc 57 (by decide)) (Max_ok a (by omega) hl) ?_
  by_cases h4 : 12 < maxL a
  · refine VO.endA ?_
    (repeat (first | refine VC.seq ?_ | refine VC.block ?_ | refine VC.kill ?_ | refine VC.skip ?_ | refine VC.exit ?_ | refine VC.regA ?_ | refine VC.condT ?_ | refine VC.condF ?_))
    refine VC.ret (Fin.A ?_); rw [if_neg (by unfold okJ; omega)]; rfl
  refine VO.endA ?_
  (repeat (first | refine VC.seq ?_ | refine VC.block ?_ | refine VC.kill ?_ | refine VC.skip ?_ | refine VC.exit ?_ | refine VC.regA ?_ | refine VC.condT ?_ | refine VC.condF ?_))
  refine VC.ret (Fin.A ?_); rw [if_pos (by unfold okJ; omega)]; rfl

def red12 (x : Int) : Int := 1 + x % 18446744073709551616 % 12
theorem red12_bd (x : Int) : 1 ≤ red12 x ∧ red12 x ≤ 12 := by unfold red12; omega
def tameJ (l : List Int) (most : Nat) : List Int := if (l.take most).length = 0 then [3] else (l.take most).map red12
theorem tame_ok (l : List Int) (m : Nat) (hm : m < 100) (hl : l.length ≤ 9223372036854775807) : VCall cfg 16 [sl1 l, vi m] [] [] (sl1 (tameJ l m)) [] := by
  (refine VCall.mk (fn := a16) rfl rfl rfl ?_; simp only [a16, inV, mkB, nmsL, PT.set])
  (repeat (first | refine VC.seq ?_ | refine VC.block ?_ | refine VC.kill ?_ | refine VC.skip ?_ | refine VC.exit ?_ | refine VC.regA ?_ | refine VC.condT ?_ | refine VC.condF ?_))
  refine VC.loopG (fun (i : Nat) => ⟨inV [p0, p1, p5, p6] [sl1 l, vi m, .os 1 p28 i, vi i] .lf, mkB [(p28, bl1 ((l.take i).map red12))] .lf, [], none⟩) (fun n i => n = l.length - i ∧ i ≤ l.length ∧ i ≤ m) (x := 0) ?_ ⟨rfl, by omega, by omega⟩ ?_
  · refine G.adoptA (p := p5) 1 p28 ?_
    (apply G.weak; constructor <;> simp (config := {decide := true}) only [PT.Le, inV, mkB, PT.set, VSt.kill, VSt.adopt, VSt.alloc, PT.filt, PT.map, List.map_cons, List.map_nil, noref, norefB, deadB, deadV, nos, nm, nmL, nmB, nmE, Pa.eqb, cond_true, cond_false, Bool.not_true, Bool.not_false, Bool.and_true, Bool.true_and, nmL_vi, flV_len, flP_len, flV_nm, flV_ok, flV_pv, flP_map, drop_flP, drop_flV, putC_flV, eqV2, eqV3, bneT, bneF, decide_true, decide_false, frzL_vi, frzL_flV, eqV_slice, eqV_ptr, eqV_func, nilS, nilP, nilF, nmL_append, true_or, or_true, and_self, true_and, and_true, Option.some.injEq, reduceCtorEq, false_or, or_false, VV.p.injEq, PV.at.injEq, Value.int.injEq, sl1, vi, bl1, vb, nilV]); rfl
  rintro n i ⟨hn, hi, him⟩
  simp only [inV, PT.set, mkB]
  have hlen : (l.take i).length = i := by simp; omega
  rcases Nat.lt_or_ge i l.length with h1 | h1 <;> rcases Nat.lt_or_ge i m with h2 | h2
  · (repeat (first | refine VC.seq ?_ | refine VC.block ?_ | refine VC.kill ?_ | refine VC.skip ?_ | refine VC.exit ?_ | refine VC.regA ?_ | refine VC.condT ?_ | refine VC.condF ?_))
    refine ⟨_, i + 1, ?_, ⟨rfl, by omega, by omega⟩, ?_⟩
    · omega
    · (apply G.weak; constructor <;> simp (config := {decide := true}) only [PT.Le, inV, mkB, PT.set, VSt.kill, VSt.adopt, VSt.alloc, PT.filt, PT.map, List.map_cons, List.map_nil, noref, norefB, deadB, deadV, nos, nm, nmL, nmB, nmE, Pa.eqb, cond_true, cond_false, Bool.not_true, Bool.not_false, Bool.and_true, Bool.true_and, nmL_vi, flV_len, flP_len, flV_nm, flV_ok, flV_pv, flP_map, drop_flP, drop_flV, putC_flV, eqV2, eqV3, bneT, bneF, decide_true, decide_false, frzL_vi, frzL_flV, eqV_slice, eqV_ptr, eqV_func, nilS, nilP, nilF, nmL_append, true_or, or_true, and_self, true_and, and_true, Option.some.injEq, reduceCtorEq, false_or, or_false, VV.p.injEq, PV.at.injEq, Value.int.injEq, sl1, vi, bl1, vb, nilV, take_map_succ h1, List.map_append, List.map_cons, List.map_nil]) <;> first | rfl | omega
  all_goals
    have ht : l.take m = l.take i := by
      rcases Nat.lt_or_ge i m with h | h
      · rw [List.take_of_length_le (by omega), List.take_of_length_le (by omega)]
      · rw [show m = i by omega]
    by_cases hz : i = 0
    · subst hz
      (repeat (first | refine VC.seq ?_ | refine VC.block ?_ | refine VC.kill ?_ | refine VC.skip ?_ | refine VC.exit ?_ | refine VC.regA ?_ | refine VC.condT ?_ | refine VC.condF ?_))
      refine VC.ret (Fin.frzA p32 (Fin.A ?_))
      have h0 : (l.take m).length = 0 := by rw [ht]; simp
      unfold tameJ; rw [if_pos h0]; rfl
    · (repeat (first | refine VC.seq ?_ | refine VC.block ?_ | refine VC.kill ?_ | refine VC.skip ?_ | refine VC.exit ?_ | refine VC.regA ?_ | refine VC.condT ?_ | refine VC.condF ?_))
      refine VC.ret (Fin.frzA p28 (Fin.A ?_))
      have h0 : (l.take m).length ≠ 0 := by rw [ht, List.length_take]; omega
      unfold tameJ; rw [if_neg h0, ht, sl1, List.length_map, hlen]; rfl
end Go.Ab.Jug

namespace Go.Ab.Jug
open Go.Ab.V
set_option maxRecDepth 100000
theorem foldl_max_ge : ∀ (a : List Int) (m : Int), m ≤ a.foldl max m ∧ ∀ x ∈ a, x ≤ a.foldl max m
  | [], m => ⟨Int.le_refl _, by simp⟩
  | y :: a, m => by
    obtain ⟨h1, h2⟩ := foldl_max_ge a (max m y)
    simp only [List.foldl_cons]
    exact ⟨by omega, fun x hx => by
      rcases List.mem_cons.1 hx with rfl | hx
      · omega
      · exact h2 x hx⟩
theorem foldl_min_le : ∀ (a : List Int) (m : Int), a.foldl min m ≤ m ∧ ∀ x ∈ a, a.foldl min m ≤ x
  | [], m => ⟨Int.le_refl _, by simp⟩
  | y :: a, m => by
    obtain ⟨h1, h2⟩ := foldl_min_le a (min m y)
    simp only [List.foldl_cons]
    exact ⟨by omega, fun x hx => by
      rcases List.mem_cons.1 hx with rfl | hx
      · omega
      · exact h2 x hx⟩
theorem okJ_mem {a : List Int} (h : okJ a) : ∀ x ∈ a, 1 ≤ x ∧ x ≤ 12 := fun x hx => by
  obtain ⟨_, _, h3, h4⟩ := h
  have h1 := (foldl_max_ge a (a.headD 0)).2 x hx
  have h2 := (foldl_min_le a (a.headD 0)).2 x hx
  unfold maxL at h4; unfold minL at h3
  omega
theorem gcd_fold : ∀ (a : List Nat) (g : Nat), (∀ x ∈ a, 0 < x) → a ≠ [] → 0 < a.foldl Nat.gcd g
  | [x], g, h, _ => by simp; exact (.inr (h x (by simp)))
  | x :: y :: a, g, h, _ => gcd_fold (y :: a) (Nat.gcd g x) (fun z hz => h z (List.mem_cons_of_mem _ hz)) (by simp)
theorem gcdL_pos {a : List Int} (h : okJ a) : 0 < gcdL a := by
  refine gcd_fold _ 0 (fun x hx => ?_) ?_
  · obtain ⟨y, hy, rfl⟩ := List.mem_map.1 hx
    have := okJ_mem h y hy; omega
  · intro e; have := h.1; rw [List.map_eq_nil_iff] at e; subst e; simp at this
theorem maxL_pos {a : List Int} (h : okJ a) : 1 ≤ maxL a ∧ maxL a ≤ 12 := by
  obtain ⟨h1, h2, h3, h4⟩ := h
  have hx : a[0] ∈ a := List.getElem_mem (by omega)
  have := (foldl_max_ge a (a.headD 0)).2 _ hx
  have := (foldl_min_le a (a.headD 0)).2 _ hx
  unfold maxL at *; unfold minL at *
  omega
theorem gcd_dvd : ∀ (a : List Nat) (g : Nat), a.foldl Nat.gcd g ∣ g ∧ ∀ x ∈ a, a.foldl Nat.gcd g ∣ x
  | [], g => ⟨Nat.dvd_refl _, by simp⟩
  | y :: a, g => by
    obtain ⟨h1, h2⟩ := gcd_dvd a (Nat.gcd g y)
    simp only [List.foldl_cons]
    exact ⟨Nat.dvd_trans h1 (Nat.gcd_dvd_left _ _), fun x hx => by
      rcases List.mem_cons.1 hx with rfl | hx
      · exact Nat.dvd_trans h1 (Nat.gcd_dvd_right _ _)
      · exact h2 x hx⟩
theorem gcdL_le {a : List Int} (h : okJ a) : gcdL a ≤ 12 := by
  have h0 : 0 < a.length := h.1
  have hx : a[0] ∈ a := List.getElem_mem h0
  have hb := okJ_mem h _ hx
  have := Nat.le_of_dvd (by omega) ((gcd_dvd (a.map Int.toNat) 0).2 _ (List.mem_map.2 ⟨_, hx, rfl⟩))
  unfold gcdL; omega
def amts (a : List Int) : List Int := (List.range ((maxL a).toNat / gcdL a + 1)).map fun (k : Nat) => (k : Int) * gcdL a
theorem Amounts_no (a : List Int) (hl : a.length ≤ 9223372036854775807) (h : ¬okJ a) : VCall cfg 30 [sl1 a] [] [] (.tup [nilV, vi 20]) [] := by
  have hc := Check_ok a hl
  rw [if_neg h] at hc
  (refine VCall.mk (fn := a30) rfl rfl rfl ?_; simp only [a30, inV, mkB, nmsL, PT.set])
  (repeat (first | refine VC.seq ?_ | refine VC.block ?_ | refine VC.kill ?_ | refine VC.skip ?_ | refine VC.exit ?_ | refine VC.regA ?_ | refine VC.condT ?_ | refine VC.condF ?_))
  refine VC.regCA ?_
  refine VO.call0A (no_orc 43 (by decide)) hc ?_
  refine VO.endA ?_
  (repeat (first | refine VC.seq ?_ | refine VC.block ?_ | refine VC.kill ?_ | refine VC.skip ?_ | refine VC.exit ?_ | refine VC.regA ?_ | refine VC.condT ?_ | refine VC.condF ?_))
  exact VC.ret (Fin.A rfl)
theorem Amounts_ok (a : List Int) (h : okJ a) : VCall cfg 30 [sl1 a] [] [] (.tup [sl1 (amts a), vi 0]) [] := by
  have hl : a.length ≤ 9223372036854775807 := by have := h.2.1; omega
  have hc := Check_ok a hl
  rw [if_pos h] at hc
  have hg := gcdL_pos h
  have hm := maxL_pos h
  have hg12 := gcdL_le h
  (refine VCall.mk (fn := a30) rfl rfl rfl ?_; simp only [a30, inV, mkB, nmsL, PT.set])
  (repeat (first | refine VC.seq ?_ | refine VC.block ?_ | refine VC.kill ?_ | refine VC.skip ?_ | refine VC.exit ?_ | refine VC.regA ?_ | refine VC.condT ?_ | refine VC.condF ?_))
  refine VC.regCA ?_
  refine VO.call0A (no_orc 43 (by decide)) hc ?_
  refine VO.endA ?_
  (repeat (first | refine VC.seq ?_ | refine VC.block ?_ | refine VC.kill ?_ | refine VC.skip ?_ | refine VC.exit ?_ | refine VC.regA ?_ | refine VC.condT ?_ | refine VC.condF ?_))
  let L : Nat → List Int := fun i => (List.range i).map fun (k : Nat) => (k : Int) * gcdL a
  have hL : ∀ i, (L i).length = i := fun i => by simp [L]
  refine VC.loopG (fun (i : Nat) => ⟨inV [p0, p5, p6] [sl1 a, .os 1 p23 i, vi (i * gcdL a)] .lf, mkB [(p23, bl1 (L i))] .lf, [], none⟩) (fun n i => n = (maxL a).toNat / gcdL a + 1 - i ∧ i ≤ (maxL a).toNat / gcdL a + 1) (x := 0) ?_ ⟨rfl, Nat.zero_le _⟩ ?_
  · refine G.adoptA (p := p5) 1 p23 ?_
    (apply G.weak; constructor <;> simp (config := {decide := true}) only [PT.Le, inV, mkB, PT.set, VSt.kill, VSt.adopt, VSt.alloc, PT.filt, PT.map, List.map_cons, List.map_nil, noref, norefB, deadB, deadV, nos, nm, nmL, nmB, nmE, Pa.eqb, cond_true, cond_false, Bool.not_true, Bool.not_false, Bool.and_true, Bool.true_and, nmL_vi, flV_len, flP_len, flV_nm, flV_ok, flV_pv, flP_map, drop_flP, drop_flV, putC_flV, eqV2, eqV3, bneT, bneF, decide_true, decide_false, frzL_vi, frzL_flV, eqV_slice, eqV_ptr, eqV_func, nilS, nilP, nilF, nmL_append, true_or, or_true, and_self, true_and, and_true, Option.some.injEq, reduceCtorEq, false_or, or_false, VV.p.injEq, PV.at.injEq, Value.int.injEq, sl1, vi, bl1, vb, nilV])
    · simp
    · rfl
  rintro n i ⟨hn, hi⟩
  have hq : (i : Int) * gcdL a ≤ maxL a ↔ i ≤ (maxL a).toNat / gcdL a := by
    rw [Nat.le_div_iff_mul_le hg]
    constructor
    · intro h; have : ((i * gcdL a : Nat) : Int) ≤ ((maxL a).toNat : Int) := by rw [Int.natCast_mul]; omega
      omega
    · intro h; have : ((i * gcdL a : Nat) : Int) ≤ ((maxL a).toNat : Int) := by omega
      rw [Int.natCast_mul] at this; omega
  have hp0 : 0 ≤ (i : Int) * gcdL a := Int.mul_nonneg (by omega) (by omega)
  have hLi := hL i
  simp only [inV, PT.set, mkB]
  (repeat (first | refine VC.seq ?_ | refine VC.block ?_ | refine VC.kill ?_ | refine VC.skip ?_ | refine VC.exit ?_ | refine VC.regA ?_ | refine VC.condT ?_ | refine VC.condF ?_))
  refine VC.regCA ?_
  refine VO.call0A (no_orc 57 (by decide)) (Max_ok a (by have := h.1; omega) hl) ?_
  refine VO.endA ?_
  (repeat (first | refine VC.seq ?_ | refine VC.block ?_ | refine VC.kill ?_ | refine VC.skip ?_ | refine VC.exit ?_ | refine VC.regA ?_ | refine VC.condT ?_ | refine VC.condF ?_))
  refine VC.condA ?_ ?_ <;> intro hc <;> (simp only [decide_eq_true_eq, decide_eq_false_iff_not, bne_iff_ne, ne_eq, bne_eq_false_iff_eq, beq_iff_eq, beq_eq_false_iff_ne, Bool.not_eq_true', Bool.not_eq_false', Bool.and_eq_true, Bool.or_eq_true, Int.natCast_inj] at hc)
  · have hc' := hq.1 hc
    have hi12 : i ≤ 12 := by have := Nat.div_le_self (maxL a).toNat (gcdL a); omega
    (repeat (first | refine VC.seq ?_ | refine VC.block ?_ | refine VC.kill ?_ | refine VC.skip ?_ | refine VC.exit ?_ | refine VC.regA ?_ | refine VC.condT ?_ | refine VC.condF ?_))
    refine VC.regCA ?_
    refine VO.call0A (no_orc 58 (by decide)) (divisor_ok a (fun x hx => by have := okJ_mem h x hx; omega) hl) ?_
    refine VO.endA ?_
    refine ⟨_, i + 1, ?_, ⟨rfl, by omega⟩, ?_⟩
    · omega
    · (apply G.weak; constructor <;> simp (config := {decide := true}) only [PT.Le, inV, mkB, PT.set, VSt.kill, VSt.adopt, VSt.alloc, PT.filt, PT.map, List.map_cons, List.map_nil, noref, norefB, deadB, deadV, nos, nm, nmL, nmB, nmE, Pa.eqb, cond_true, cond_false, Bool.not_true, Bool.not_false, Bool.and_true, Bool.true_and, nmL_vi, flV_len, flP_len, flV_nm, flV_ok, flV_pv, flP_map, drop_flP, drop_flV, putC_flV, eqV2, eqV3, bneT, bneF, decide_true, decide_false, frzL_vi, frzL_flV, eqV_slice, eqV_ptr, eqV_func, nilS, nilP, nilF, nmL_append, true_or, or_true, and_self, true_and, and_true, Option.some.injEq, reduceCtorEq, false_or, or_false, VV.p.injEq, PV.at.injEq, Value.int.injEq, sl1, vi, bl1, vb, nilV])
      · rw [Int.natCast_add, Int.add_mul, Int.natCast_one, Int.one_mul]
      · show VB.cells (List.map vi (L (i + 1))) = _
        have : L (i + 1) = L i ++ [(i : Int) * gcdL a] := by simp only [L, List.range_succ, List.map_append, List.map_cons, List.map_nil]
        rw [this, List.map_append]; rfl
  · have hi' : i = (maxL a).toNat / gcdL a + 1 := by
      have : ¬ i ≤ (maxL a).toNat / gcdL a := fun h => hc (hq.2 h)
      omega
    (repeat (first | refine VC.seq ?_ | refine VC.block ?_ | refine VC.kill ?_ | refine VC.skip ?_ | refine VC.exit ?_ | refine VC.regA ?_ | refine VC.condT ?_ | refine VC.condF ?_))
    refine VC.ret (Fin.frzA p23 (Fin.A ?_))
    have e : L i = amts a := by rw [hi']; rfl
    rw [sl1, ← e, hL]; rfl

theorem tame_okJ (l : List Int) : okJ (tameJ l 4) := by
  unfold tameJ
  split
  · decide
  · rename_i h0
    have hb : ∀ x ∈ (l.take 4).map red12, 1 ≤ x ∧ x ≤ 12 := fun x hx => by
      obtain ⟨y, _, rfl⟩ := List.mem_map.1 hx; exact red12_bd y
    generalize hq : (l.take 4).map red12 = q at hb
    have hl : q.length = (l.take 4).length := by rw [← hq, List.length_map]
    have hl4 : (l.take 4).length ≤ 4 := by rw [List.length_take]; omega
    have h1 : 1 ≤ q.length := by omega
    refine ⟨h1, by omega, ?_, ?_⟩
    · unfold minL
      have : ∀ (a : List Int) (m : Int), 1 ≤ m → (∀ x ∈ a, 1 ≤ x) → 1 ≤ a.foldl min m := by
        intro a
        induction a with
        | nil => intro m h _; exact h
        | cons y a ih => intro m h hx; exact ih _ (by have := hx y (by simp); omega) (fun x h => hx x (List.mem_cons_of_mem _ h))
      refine this q _ ?_ (fun x hx => (hb x hx).1)
      cases q with
      | nil => simp at h1
      | cons y q => exact (hb y (by simp)).1
    · unfold maxL
      have : ∀ (a : List Int) (m : Int), m ≤ 12 → (∀ x ∈ a, x ≤ 12) → a.foldl max m ≤ 12 := by
        intro a
        induction a with
        | nil => intro m h _; exact h
        | cons y a ih => intro m h hx; exact ih _ (by have := hx y (by simp); omega) (fun x h => hx x (List.mem_cons_of_mem _ h))
      refine this q _ ?_ (fun x hx => (hb x hx).2)
      cases q with
      | nil => simp at h1
      | cons y q => exact (hb y (by simp)).2
theorem bezout_ok (l : List Int) (hl : l.length ≤ 9223372036854775807) : VCall cfg 6 [sl1 l] [] [] (vb true) [] := by
  have htm := tame_ok l 4 (by omega) hl
  have hok := tame_okJ l
  generalize tameJ l 4 = a at hok htm
  have hal : a.length ≤ 9223372036854775807 := by have := hok.2.1; omega
  have hal4 : a.length ≤ 4 := hok.2.1
  have hmem := okJ_mem hok
  have hg0 := gcdL_pos hok
  have hml := maxL_pos hok
  have hgl := gcdL_le hok
  have hlen : ((amts a).length : Int) = maxL a / gcdL a + 1 := by
    simp only [amts, List.length_map, List.length_range]
    rw [Int.natCast_add, Int.natCast_ediv, Int.toNat_of_nonneg (by omega)]; rfl
  have hd0 : 0 ≤ maxL a / gcdL a ∧ maxL a / gcdL a ≤ 12 := ⟨Int.ediv_nonneg (by omega) (by omega), Int.le_trans (Int.ediv_le_self _ (by omega)) (by omega)⟩
  have hz : ((gcdL a : Nat) : Int) ≠ 0 := by omega
  have hmx : a.foldl max 0 = maxL a := by
    unfold maxL
    have h0 : 0 < a.length := hok.1
    cases a with
    | nil => simp at h0
    | cons x r =>
      have := (hmem x (by simp)).1
      simp only [List.foldl_cons, List.headD_cons]; congr 1; omega
  (refine VCall.mk (fn := a6) rfl rfl rfl ?_; simp only [a6, inV, mkB, nmsL, PT.set])
  (repeat (first | refine VC.seq ?_ | refine VC.block ?_ | refine VC.kill ?_ | refine VC.skip ?_ | refine VC.exit ?_ | refine VC.regA ?_ | refine VC.condT ?_ | refine VC.condF ?_))
  refine VC.regCA ?_
  refine VO.call0A (no_orc 16 (by decide)) htm ?_
  refine VO.endA ?_
  (repeat (first | refine VC.seq ?_ | refine VC.block ?_ | refine VC.kill ?_ | refine VC.skip ?_ | refine VC.exit ?_ | refine VC.regA ?_ | refine VC.condT ?_ | refine VC.condF ?_))
  refine VC.regCA ?_
  refine VO.call0A (no_orc 30 (by decide)) (Amounts_ok a hok) ?_
  refine VO.endA ?_
  (repeat (first | refine VC.seq ?_ | refine VC.block ?_ | refine VC.kill ?_ | refine VC.skip ?_ | refine VC.exit ?_ | refine VC.regA ?_ | refine VC.condT ?_ | refine VC.condF ?_))
  refine VC.loopG (fun (i : Nat) => ⟨inV [p3, p4, p5, p6, p7, p8] [sl1 a, sl1 (amts a), vi 0, vi (gcdL (a.take i)), vi ((a.take i).foldl max 0), vi i] .lf, .lf, [], none⟩) (fun n i => n = a.length - i ∧ i ≤ a.length) (x := 0) ?_ ⟨rfl, by omega⟩ ?_
  · (apply G.weak; constructor <;> simp (config := {decide := true}) only [PT.Le, inV, mkB, PT.set, VSt.kill, VSt.adopt, VSt.alloc, PT.filt, PT.map, List.map_cons, List.map_nil, noref, norefB, deadB, deadV, nos, nm, nmL, nmB, nmE, Pa.eqb, cond_true, cond_false, Bool.not_true, Bool.not_false, Bool.and_true, Bool.true_and, nmL_vi, flV_len, flP_len, flV_nm, flV_ok, flV_pv, flP_map, drop_flP, drop_flV, putC_flV, eqV2, eqV3, bneT, bneF, decide_true, decide_false, frzL_vi, frzL_flV, eqV_slice, eqV_ptr, eqV_func, nilS, nilP, nilF, nmL_append, true_or, or_true, and_self, true_and, and_true, Option.some.injEq, reduceCtorEq, false_or, or_false, VV.p.injEq, PV.at.injEq, Value.int.injEq, sl1, vi, bl1, vb, nilV]); exact ⟨rfl, rfl⟩
  rintro n i ⟨hn, hi⟩
  simp only [inV, PT.set]
  (repeat (first | refine VC.seq ?_ | refine VC.block ?_ | refine VC.kill ?_ | refine VC.skip ?_ | refine VC.exit ?_ | refine VC.regA ?_ | refine VC.condT ?_ | refine VC.condF ?_))
  refine VC.condA ?_ ?_ <;> intro h <;> (simp only [decide_eq_true_eq, decide_eq_false_iff_not, bne_iff_ne, ne_eq, bne_eq_false_iff_eq, beq_iff_eq, beq_eq_false_iff_ne, Bool.not_eq_true', Bool.not_eq_false', Bool.and_eq_true, Bool.or_eq_true, Int.natCast_inj] at h)
  · have h : i < a.length := by omega
    obtain ⟨ha0, ha1⟩ := hmem _ (List.getElem_mem h)
    have hm : (a.take (i + 1)).foldl max 0 = max ((a.take i).foldl max 0) a[i] := by
      rw [List.take_add_one, List.getElem?_eq_getElem h, List.foldl_append]; rfl
    (repeat (first | refine VC.seq ?_ | refine VC.block ?_ | refine VC.kill ?_ | refine VC.skip ?_ | refine VC.exit ?_ | refine VC.regA ?_ | refine VC.condT ?_ | refine VC.condF ?_))
    refine VC.loopG (fun (q : Nat × Nat) => ⟨inV [p3, p4, p5, p6, p7, p8, p9] [sl1 a, sl1 (amts a), vi 0, vi q.1, vi (max ((a.take i).foldl max 0) a[i]), vi i, vi q.2] .lf, .lf, [], none⟩) (fun n q => n = q.2 ∧ Nat.gcd q.1 q.2 = gcdL (a.take (i + 1))) (x := (gcdL (a.take i), a[i].toNat)) ?_ ⟨rfl, (gcdL_succ h).symm⟩ ?_
    · (apply G.weak; constructor <;> simp (config := {decide := true}) only [PT.Le, inV, mkB, PT.set, VSt.kill, VSt.adopt, VSt.alloc, PT.filt, PT.map, List.map_cons, List.map_nil, noref, norefB, deadB, deadV, nos, nm, nmL, nmB, nmE, Pa.eqb, cond_true, cond_false, Bool.not_true, Bool.not_false, Bool.and_true, Bool.true_and, nmL_vi, flV_len, flP_len, flV_nm, flV_ok, flV_pv, flP_map, drop_flP, drop_flV, putC_flV, eqV2, eqV3, bneT, bneF, decide_true, decide_false, frzL_vi, frzL_flV, eqV_slice, eqV_ptr, eqV_func, nilS, nilP, nilF, nmL_append, true_or, or_true, and_self, true_and, and_true, Option.some.injEq, reduceCtorEq, false_or, or_false, VV.p.injEq, PV.at.injEq, Value.int.injEq, sl1, vi, bl1, vb, nilV]); omega
    rintro n ⟨x, y⟩ ⟨hn2, he⟩
    simp only at hn2 he
    simp only [inV, PT.set]
    (repeat (first | refine VC.seq ?_ | refine VC.block ?_ | refine VC.kill ?_ | refine VC.skip ?_ | refine VC.exit ?_ | refine VC.regA ?_ | refine VC.condT ?_ | refine VC.condF ?_))
    refine VC.condA ?_ ?_ <;> intro h2 <;> (simp only [decide_eq_true_eq, decide_eq_false_iff_not, bne_iff_ne, ne_eq, bne_eq_false_iff_eq, beq_iff_eq, beq_eq_false_iff_ne, Bool.not_eq_true', Bool.not_eq_false', Bool.and_eq_true, Bool.or_eq_true, Int.natCast_inj] at h2)
    · (repeat (first | refine VC.seq ?_ | refine VC.block ?_ | refine VC.kill ?_ | refine VC.skip ?_ | refine VC.exit ?_ | refine VC.regA ?_ | refine VC.condT ?_ | refine VC.condF ?_))
      refine ⟨_, (y, x % y), ?_, ⟨rfl, (gcd_step x y).trans he⟩, ?_⟩
      · rw [hn2]; exact Nat.mod_lt _ (by omega)
      · (apply G.weak; constructor <;> simp (config := {decide := true}) only [PT.Le, inV, mkB, PT.set, VSt.kill, VSt.adopt, VSt.alloc, PT.filt, PT.map, List.map_cons, List.map_nil, noref, norefB, deadB, deadV, nos, nm, nmL, nmB, nmE, Pa.eqb, cond_true, cond_false, Bool.not_true, Bool.not_false, Bool.and_true, Bool.true_and, nmL_vi, flV_len, flP_len, flV_nm, flV_ok, flV_pv, flP_map, drop_flP, drop_flV, putC_flV, eqV2, eqV3, bneT, bneF, decide_true, decide_false, frzL_vi, frzL_flV, eqV_slice, eqV_ptr, eqV_func, nilS, nilP, nilF, nmL_append, true_or, or_true, and_self, true_and, and_true, Option.some.injEq, reduceCtorEq, false_or, or_false, VV.p.injEq, PV.at.injEq, Value.int.injEq, sl1, vi, bl1, vb, nilV]); omega
    · have hy0 : y = 0 := by omega
      subst hy0
      (repeat (first | refine VC.seq ?_ | refine VC.block ?_ | refine VC.kill ?_ | refine VC.skip ?_ | refine VC.exit ?_ | refine VC.regA ?_ | refine VC.condT ?_ | refine VC.condF ?_))
      refine ⟨_, i + 1, ?_, ⟨rfl, by omega⟩, ?_⟩
      · omega
      · (apply G.weak; constructor <;> simp (config := {decide := true}) only [PT.Le, inV, mkB, PT.set, VSt.kill, VSt.adopt, VSt.alloc, PT.filt, PT.map, List.map_cons, List.map_nil, noref, norefB, deadB, deadV, nos, nm, nmL, nmB, nmE, Pa.eqb, cond_true, cond_false, Bool.not_true, Bool.not_false, Bool.and_true, Bool.true_and, nmL_vi, flV_len, flP_len, flV_nm, flV_ok, flV_pv, flP_map, drop_flP, drop_flV, putC_flV, eqV2, eqV3, bneT, bneF, decide_true, decide_false, frzL_vi, frzL_flV, eqV_slice, eqV_ptr, eqV_func, nilS, nilP, nilF, nmL_append, true_or, or_true, and_self, true_and, and_true, Option.some.injEq, reduceCtorEq, false_or, or_false, VV.p.injEq, PV.at.injEq, Value.int.injEq, sl1, vi, bl1, vb, nilV]); simp only [Nat.gcd_zero_right] at he; rw [hm, he]; exact ⟨rfl, rfl, by omega⟩
  · have hi' : i = a.length := by omega
    have hta : a.take i = a := by rw [hi', List.take_length]
    rw [hta, hmx]
    (repeat (first | refine VC.seq ?_ | refine VC.block ?_ | refine VC.kill ?_ | refine VC.skip ?_ | refine VC.exit ?_ | refine VC.regA ?_ | refine VC.condT ?_ | refine VC.condF ?_))
    refine VC.loopG (fun (i : Nat) => ⟨inV [p4, p6, p10] [sl1 (amts a), vi (gcdL a), vi i] .lf, .lf, [], none⟩) (fun n i => n = (amts a).length - i ∧ i ≤ (amts a).length) (x := 0) ?_ ⟨rfl, by omega⟩ ?_
    · (apply G.weak; constructor <;> simp (config := {decide := true}) only [PT.Le, inV, mkB, PT.set, VSt.kill, VSt.adopt, VSt.alloc, PT.filt, PT.map, List.map_cons, List.map_nil, noref, norefB, deadB, deadV, nos, nm, nmL, nmB, nmE, Pa.eqb, cond_true, cond_false, Bool.not_true, Bool.not_false, Bool.and_true, Bool.true_and, nmL_vi, flV_len, flP_len, flV_nm, flV_ok, flV_pv, flP_map, drop_flP, drop_flV, putC_flV, eqV2, eqV3, bneT, bneF, decide_true, decide_false, frzL_vi, frzL_flV, eqV_slice, eqV_ptr, eqV_func, nilS, nilP, nilF, nmL_append, true_or, or_true, and_self, true_and, and_true, Option.some.injEq, reduceCtorEq, false_or, or_false, VV.p.injEq, PV.at.injEq, Value.int.injEq, sl1, vi, bl1, vb, nilV])
    rintro n i ⟨hn, hi⟩
    simp only [inV, PT.set]
    (repeat (first | refine VC.seq ?_ | refine VC.block ?_ | refine VC.kill ?_ | refine VC.skip ?_ | refine VC.exit ?_ | refine VC.regA ?_ | refine VC.condT ?_ | refine VC.condF ?_))
    refine VC.condA ?_ ?_ <;> intro h <;> (simp only [decide_eq_true_eq, decide_eq_false_iff_not, bne_iff_ne, ne_eq, bne_eq_false_iff_eq, beq_iff_eq, beq_eq_false_iff_ne, Bool.not_eq_true', Bool.not_eq_false', Bool.and_eq_true, Bool.or_eq_true, Int.natCast_inj] at h)
    · have h : i < (amts a).length := by omega
      have hget : (amts a)[i] = (i : Int) * gcdL a := by simp [amts]
      have hb : 0 ≤ (i : Int) * gcdL a ∧ (i : Int) * gcdL a < 1000 := by
        refine ⟨Int.mul_nonneg (by omega) (by omega), ?_⟩
        have h1 : (i : Int) ≤ maxL a / gcdL a := by omega
        have h2 := Int.mul_le_mul_of_nonneg_right h1 (show (0 : Int) ≤ gcdL a by omega)
        have h3 := Int.ediv_mul_le (maxL a) hz
        omega
      (repeat (first | refine VC.seq ?_ | refine VC.block ?_ | refine VC.kill ?_ | refine VC.skip ?_ | refine VC.exit ?_ | refine VC.regA ?_ | refine VC.condT ?_ | refine VC.condF ?_))
      refine ⟨_, i + 1, ?_, ⟨rfl, by omega⟩, ?_⟩
      · omega
      · (apply G.weak; constructor <;> simp (config := {decide := true}) only [PT.Le, inV, mkB, PT.set, VSt.kill, VSt.adopt, VSt.alloc, PT.filt, PT.map, List.map_cons, List.map_nil, noref, norefB, deadB, deadV, nos, nm, nmL, nmB, nmE, Pa.eqb, cond_true, cond_false, Bool.not_true, Bool.not_false, Bool.and_true, Bool.true_and, nmL_vi, flV_len, flP_len, flV_nm, flV_ok, flV_pv, flP_map, drop_flP, drop_flV, putC_flV, eqV2, eqV3, bneT, bneF, decide_true, decide_false, frzL_vi, frzL_flV, eqV_slice, eqV_ptr, eqV_func, nilS, nilP, nilF, nmL_append, true_or, or_true, and_self, true_and, and_true, Option.some.injEq, reduceCtorEq, false_or, or_false, VV.p.injEq, PV.at.injEq, Value.int.injEq, sl1, vi, bl1, vb, nilV]); rfl
    · (repeat (first | refine VC.seq ?_ | refine VC.block ?_ | refine VC.kill ?_ | refine VC.skip ?_ | refine VC.exit ?_ | refine VC.regA ?_ | refine VC.condT ?_ | refine VC.condF ?_))
      refine VC.regCA ?_
      refine VO.knownA (.bool true) rfl ?_
      refine VO.endA ?_
      (repeat (first | refine VC.seq ?_ | refine VC.block ?_ | refine VC.kill ?_ | refine VC.skip ?_ | refine VC.exit ?_ | refine VC.regA ?_ | refine VC.condT ?_ | refine VC.condF ?_))
      exact VC.ret (Fin.A rfl)
end Go.Ab.Jug

namespace Go.Ab.Jug
open Go.Ab.V
set_option maxRecDepth 100000
theorem sl1_take (l : List Int) (m : Nat) : sl1 (l.take m) = .p (.sl 1 (min l.length m) ((l.take (min l.length m)).map pi)) := by
  have : l.take (min l.length m) = l.take m := by
    rcases Nat.le_total l.length m with h | h
    · rw [Nat.min_eq_left h, List.take_of_length_le h, List.take_length]
    · rw [Nat.min_eq_right h]
  rw [sl1, this, List.length_take, Nat.min_comm]
theorem few_ok (l : List Int) (m : Nat) (hm : m < 1000) (hl : l.length ≤ 9223372036854775807) : VCall cfg 41 [sl1 l, vi m] [] [] (sl1 (l.take m)) [] := by
  (refine VCall.mk (fn := a41) rfl rfl rfl ?_; simp only [a41, inV, mkB, nmsL, PT.set])
  (repeat (first | refine VC.seq ?_ | refine VC.block ?_ | refine VC.kill ?_ | refine VC.skip ?_ | refine VC.exit ?_ | refine VC.regA ?_ | refine VC.condT ?_ | refine VC.condF ?_))
  refine VC.ret (Fin.frzA p13 (Fin.A ?_))
  exact sl1_take l m
theorem okJ_iff (a : List Int) : okJ a ↔ (∀ x ∈ a, 1 ≤ x ∧ x ≤ 12) ∧ 1 ≤ a.length ∧ a.length ≤ 4 := by
  refine ⟨fun h => ⟨okJ_mem h, h.1, h.2.1⟩, fun ⟨h, h1, h4⟩ => ⟨h1, h4, ?_, ?_⟩⟩
  · unfold minL
    have : ∀ (a : List Int) (m : Int), 1 ≤ m → (∀ x ∈ a, 1 ≤ x) → 1 ≤ a.foldl min m := by
      intro a
      induction a with
      | nil => intro m h _; exact h
      | cons y a ih => intro m h hx; exact ih _ (by have := hx y (by simp); omega) (fun x h => hx x (List.mem_cons_of_mem _ h))
    refine this a _ ?_ (fun x hx => (h x hx).1)
    cases a with
    | nil => simp at h1
    | cons y q => exact (h y (by simp)).1
  · unfold maxL
    have : ∀ (a : List Int) (m : Int), m ≤ 12 → (∀ x ∈ a, x ≤ 12) → a.foldl max m ≤ 12 := by
      intro a
      induction a with
      | nil => intro m h _; exact h
      | cons y a ih => intro m h hx; exact ih _ (by have := hx y (by simp); omega) (fun x h => hx x (List.mem_cons_of_mem _ h))
    refine this a _ ?_ (fun x hx => (h x hx).2)
    cases a with
    | nil => simp at h1
    | cons y q => exact (h y (by simp)).2
theorem Jugs_ok (a : List Int) (hl : a.length ≤ 9223372036854775807) : VCall cfg 42 [sl1 a] [] [] (vb (decide (okJ a))) [] := by
  (refine VCall.mk (fn := a42) rfl rfl rfl ?_; simp only [a42, inV, mkB, nmsL, PT.set])
  (repeat (first | refine VC.seq ?_ | refine VC.block ?_ | refine VC.kill ?_ | refine VC.skip ?_ | refine VC.exit ?_ | refine VC.regA ?_ | refine VC.condT ?_ | refine VC.condF ?_))
  refine VC.loopG (fun (i : Nat) => ⟨inV [p0, p3] [sl1 a, vi i] .lf, .lf, [], none⟩) (fun n i => n = a.length - i ∧ i ≤ a.length ∧ ∀ x ∈ a.take i, 1 ≤ x ∧ x ≤ 12) (x := 0) ?_ ⟨rfl, by omega, by simp⟩ ?_
  · (apply G.weak; constructor <;> simp (config := {decide := true}) only [PT.Le, inV, mkB, PT.set, VSt.kill, VSt.adopt, VSt.alloc, PT.filt, PT.map, List.map_cons, List.map_nil, noref, norefB, deadB, deadV, nos, nm, nmL, nmB, nmE, Pa.eqb, cond_true, cond_false, Bool.not_true, Bool.not_false, Bool.and_true, Bool.true_and, nmL_vi, flV_len, flP_len, flV_nm, flV_ok, flV_pv, flP_map, drop_flP, drop_flV, putC_flV, eqV2, eqV3, bneT, bneF, decide_true, decide_false, frzL_vi, frzL_flV, eqV_slice, eqV_ptr, eqV_func, nilS, nilP, nilF, nmL_append, true_or, or_true, and_self, true_and, and_true, Option.some.injEq, reduceCtorEq, false_or, or_false, VV.p.injEq, PV.at.injEq, Value.int.injEq, sl1, vi, bl1, vb, nilV])
  rintro n i ⟨hn, hi, hx⟩
  simp only [inV, PT.set]
  (repeat (first | refine VC.seq ?_ | refine VC.block ?_ | refine VC.kill ?_ | refine VC.skip ?_ | refine VC.exit ?_ | refine VC.regA ?_ | refine VC.condT ?_ | refine VC.condF ?_))
  refine VC.condA ?_ ?_ <;> intro h <;> (simp only [decide_eq_true_eq, decide_eq_false_iff_not, bne_iff_ne, ne_eq, bne_eq_false_iff_eq, beq_iff_eq, beq_eq_false_iff_ne, Bool.not_eq_true', Bool.not_eq_false', Bool.and_eq_true, Bool.or_eq_true, Int.natCast_inj] at h)
  · have h : i < a.length := by omega
    have hno : (a[i] < 1 ∨ 12 < a[i]) → ¬okJ a := fun h' hk => by have := okJ_mem hk _ (List.getElem_mem h); omega
    by_cases h1 : a[i] < 1
    · (repeat (first | refine VC.seq ?_ | refine VC.block ?_ | refine VC.kill ?_ | refine VC.skip ?_ | refine VC.exit ?_ | refine VC.regA ?_ | refine VC.condT ?_ | refine VC.condF ?_))
      refine VC.ret (Fin.A ?_)
      rw [decide_eq_false (hno (.inl h1))]; rfl
    by_cases h2 : 12 < a[i]
    · (repeat (first | refine VC.seq ?_ | refine VC.block ?_ | refine VC.kill ?_ | refine VC.skip ?_ | refine VC.exit ?_ | refine VC.regA ?_ | refine VC.condT ?_ | refine VC.condF ?_))
      refine VC.ret (Fin.A ?_)
      rw [decide_eq_false (hno (.inr h2))]; rfl
    (repeat (first | refine VC.seq ?_ | refine VC.block ?_ | refine VC.kill ?_ | refine VC.skip ?_ | refine VC.exit ?_ | refine VC.regA ?_ | refine VC.condT ?_ | refine VC.condF ?_))
    refine ⟨_, i + 1, ?_, ⟨rfl, by omega, ?_⟩, ?_⟩
    · omega
    · intro x hm
      rw [List.take_add_one, List.getElem?_eq_getElem h] at hm
      rcases List.mem_append.1 hm with hm | hm
      · exact hx x hm
      · have : x = a[i] := by simpa using hm
        omega
    · (apply G.weak; constructor <;> simp (config := {decide := true}) only [PT.Le, inV, mkB, PT.set, VSt.kill, VSt.adopt, VSt.alloc, PT.filt, PT.map, List.map_cons, List.map_nil, noref, norefB, deadB, deadV, nos, nm, nmL, nmB, nmE, Pa.eqb, cond_true, cond_false, Bool.not_true, Bool.not_false, Bool.and_true, Bool.true_and, nmL_vi, flV_len, flP_len, flV_nm, flV_ok, flV_pv, flP_map, drop_flP, drop_flV, putC_flV, eqV2, eqV3, bneT, bneF, decide_true, decide_false, frzL_vi, frzL_flV, eqV_slice, eqV_ptr, eqV_func, nilS, nilP, nilF, nmL_append, true_or, or_true, and_self, true_and, and_true, Option.some.injEq, reduceCtorEq, false_or, or_false, VV.p.injEq, PV.at.injEq, Value.int.injEq, sl1, vi, bl1, vb, nilV]); rfl
  · rw [List.take_of_length_le (by omega)] at hx
    by_cases h1 : 1 ≤ a.length
    · (repeat (first | refine VC.seq ?_ | refine VC.block ?_ | refine VC.kill ?_ | refine VC.skip ?_ | refine VC.exit ?_ | refine VC.regA ?_ | refine VC.condT ?_ | refine VC.condF ?_))
      refine VC.ret (Fin.A ?_)
      have : okJ a ↔ (a.length : Int) ≤ 4 := by rw [okJ_iff]; exact ⟨fun h => by omega, fun h => ⟨hx, h1, by omega⟩⟩
      rw [decide_eq_decide.2 this]; rfl
    · (repeat (first | refine VC.seq ?_ | refine VC.block ?_ | refine VC.kill ?_ | refine VC.skip ?_ | refine VC.exit ?_ | refine VC.regA ?_ | refine VC.condT ?_ | refine VC.condF ?_))
      refine VC.ret (Fin.A ?_)
      rw [decide_eq_false (fun h => h1 h.1)]; rfl
def fillB (x f : List Int) : Bool := f.length == x.length && (f.zip x).all (fun q => decide (0 ≤ q.1) && decide (q.1 ≤ q.2))
theorem fillB_iff (x f : List Int) : fillB x f = true ↔ f.length = x.length ∧ ∀ (i : Nat) (h : i < f.length) (h' : i < x.length), 0 ≤ f[i] ∧ f[i] ≤ x[i] := by
  unfold fillB
  rw [Bool.and_eq_true, beq_iff_eq, List.all_eq_true]
  constructor
  · rintro ⟨h1, h2⟩
    refine ⟨h1, fun i h h' => ?_⟩
    have := h2 (f[i], x[i]) (by rw [← List.getElem_zip (h := by simp; omega)]; exact List.getElem_mem _)
    simpa using this
  · rintro ⟨h1, h2⟩
    refine ⟨h1, fun q hq => ?_⟩
    obtain ⟨i, hi, rfl⟩ := List.mem_iff_getElem.1 hq
    rw [List.length_zip] at hi
    have := h2 i (by omega) (by omega)
    simpa [List.getElem_zip] using this
theorem Filling_ok (x f : List Int) (hl : f.length ≤ 9223372036854775807) : VCall cfg 44 [sl1 x, sl1 f] [] [] (vb (fillB x f)) [] := by
  (refine VCall.mk (fn := a44) rfl rfl rfl ?_; simp only [a44, inV, mkB, nmsL, PT.set])
  by_cases hlen : f.length = x.length
  · (repeat (first | refine VC.seq ?_ | refine VC.block ?_ | refine VC.kill ?_ | refine VC.skip ?_ | refine VC.exit ?_ | refine VC.regA ?_ | refine VC.condT ?_ | refine VC.condF ?_))
    refine VC.loopG (fun (i : Nat) => ⟨inV [p0, p1, p5] [sl1 x, sl1 f, vi i] .lf, .lf, [], none⟩) (fun n i => n = f.length - i ∧ i ≤ f.length ∧ ∀ (k : Nat) (h : k < f.length) (h' : k < x.length), k < i → 0 ≤ f[k] ∧ f[k] ≤ x[k]) (x := 0) ?_ ⟨rfl, by omega, fun k _ _ h => by omega⟩ ?_
    · (apply G.weak; constructor <;> simp (config := {decide := true}) only [PT.Le, inV, mkB, PT.set, VSt.kill, VSt.adopt, VSt.alloc, PT.filt, PT.map, List.map_cons, List.map_nil, noref, norefB, deadB, deadV, nos, nm, nmL, nmB, nmE, Pa.eqb, cond_true, cond_false, Bool.not_true, Bool.not_false, Bool.and_true, Bool.true_and, nmL_vi, flV_len, flP_len, flV_nm, flV_ok, flV_pv, flP_map, drop_flP, drop_flV, putC_flV, eqV2, eqV3, bneT, bneF, decide_true, decide_false, frzL_vi, frzL_flV, eqV_slice, eqV_ptr, eqV_func, nilS, nilP, nilF, nmL_append, true_or, or_true, and_self, true_and, and_true, Option.some.injEq, reduceCtorEq, false_or, or_false, VV.p.injEq, PV.at.injEq, Value.int.injEq, sl1, vi, bl1, vb, nilV])
    rintro n i ⟨hn, hi, hx⟩
    simp only [inV, PT.set]
    (repeat (first | refine VC.seq ?_ | refine VC.block ?_ | refine VC.kill ?_ | refine VC.skip ?_ | refine VC.exit ?_ | refine VC.regA ?_ | refine VC.condT ?_ | refine VC.condF ?_))
    refine VC.condA ?_ ?_ <;> intro h <;> (simp only [decide_eq_true_eq, decide_eq_false_iff_not, bne_iff_ne, ne_eq, bne_eq_false_iff_eq, beq_iff_eq, beq_eq_false_iff_ne, Bool.not_eq_true', Bool.not_eq_false', Bool.and_eq_true, Bool.or_eq_true, Int.natCast_inj] at h)
    · have h : i < f.length := by omega
      have h' : i < x.length := by omega
      have hno : (f[i] < 0 ∨ x[i] < f[i]) → fillB x f = false := fun hb => by
        rw [← Bool.not_eq_true, fillB_iff]
        intro hk
        have := hk.2 i h h'
        omega
      by_cases h1 : f[i] < 0
      · (repeat (first | refine VC.seq ?_ | refine VC.block ?_ | refine VC.kill ?_ | refine VC.skip ?_ | refine VC.exit ?_ | refine VC.regA ?_ | refine VC.condT ?_ | refine VC.condF ?_))
        refine VC.ret (Fin.A ?_)
        rw [hno (.inl h1)]; rfl
      by_cases h2 : x[i] < f[i]
      · (repeat (first | refine VC.seq ?_ | refine VC.block ?_ | refine VC.kill ?_ | refine VC.skip ?_ | refine VC.exit ?_ | refine VC.regA ?_ | refine VC.condT ?_ | refine VC.condF ?_))
        refine VC.ret (Fin.A ?_)
        rw [hno (.inr h2)]; rfl
      (repeat (first | refine VC.seq ?_ | refine VC.block ?_ | refine VC.kill ?_ | refine VC.skip ?_ | refine VC.exit ?_ | refine VC.regA ?_ | refine VC.condT ?_ | refine VC.condF ?_))
      refine ⟨_, i + 1, ?_, ⟨rfl, by omega, ?_⟩, ?_⟩
      · omega
      · intro k hk hk' hlt
        rcases Nat.lt_or_ge k i with h3 | h3
        · exact hx k hk hk' h3
        · have : k = i := by omega
          subst this; omega
      · (apply G.weak; constructor <;> simp (config := {decide := true}) only [PT.Le, inV, mkB, PT.set, VSt.kill, VSt.adopt, VSt.alloc, PT.filt, PT.map, List.map_cons, List.map_nil, noref, norefB, deadB, deadV, nos, nm, nmL, nmB, nmE, Pa.eqb, cond_true, cond_false, Bool.not_true, Bool.not_false, Bool.and_true, Bool.true_and, nmL_vi, flV_len, flP_len, flV_nm, flV_ok, flV_pv, flP_map, drop_flP, drop_flV, putC_flV, eqV2, eqV3, bneT, bneF, decide_true, decide_false, frzL_vi, frzL_flV, eqV_slice, eqV_ptr, eqV_func, nilS, nilP, nilF, nmL_append, true_or, or_true, and_self, true_and, and_true, Option.some.injEq, reduceCtorEq, false_or, or_false, VV.p.injEq, PV.at.injEq, Value.int.injEq, sl1, vi, bl1, vb, nilV]); rfl
    · (repeat (first | refine VC.seq ?_ | refine VC.block ?_ | refine VC.kill ?_ | refine VC.skip ?_ | refine VC.exit ?_ | refine VC.regA ?_ | refine VC.condT ?_ | refine VC.condF ?_))
      refine VC.ret (Fin.A ?_)
      rw [(fillB_iff x f).2 ⟨hlen, fun k hk hk' => hx k hk hk' (by omega)⟩]; rfl
  · (repeat (first | refine VC.seq ?_ | refine VC.block ?_ | refine VC.kill ?_ | refine VC.skip ?_ | refine VC.exit ?_ | refine VC.regA ?_ | refine VC.condT ?_ | refine VC.condF ?_))
    refine VC.ret (Fin.A ?_)
    have : fillB x f = false := by rw [← Bool.not_eq_true, fillB_iff]; exact fun h => hlen h.1
    rw [this]; rfl
end Go.Ab.Jug

namespace Go.Ab.Jug
open Go.Ab.V
set_option maxRecDepth 100000
def pad4 (x : List Int) : List Int := x ++ List.replicate (4 - x.length) 0
/-- Jugs in memory: their number, the sizes, closed or not. -/
def jugC (x : List Int) (c : Bool) : List PV := pi x.length :: ((pad4 x).map pi ++ [.at (.bool c)])
def jugP (x : List Int) (c : Bool) : VV := .p (.fp 0 (jugC x c))
def nilP : VV := .p (.at (.pointer none))
theorem put_pad (x : List Int) (h : x.length ≤ 4) (n : Int) (c : VV) : putC [vi n, vi 0, vi 0, vi 0, vi 0, c] 1 (x.map vi) = vi n :: ((pad4 x).map vi ++ [c]) := by
  rcases x with _ | ⟨a, _ | ⟨b, _ | ⟨d, _ | ⟨e, _ | ⟨f, r⟩⟩⟩⟩⟩ <;> first | rfl | simp at h
theorem jug_pvs (x : List Int) (h : x.length ≤ 4) (c : Bool) : toPVs (vi x.length :: ((pad4 x).map vi ++ [vb c])) = some (jugC x c) := by
  rcases x with _ | ⟨a, _ | ⟨b, _ | ⟨d, _ | ⟨e, _ | ⟨f, r⟩⟩⟩⟩⟩ <;> first | rfl | simp at h
def fillsE (x : List Int) (fs : List (List Int)) : Int := if fs.all (fillB x) then 0 else 1
theorem open_no (x : List Int) (hl : x.length ≤ 9223372036854775807) (h : ¬okJ x) (c : Bool) (v : VV) : VCall cfg 46 [sl1 x, vb c, v] [] [] (.tup [nilP, vi 20]) [] := by
  have hc := Check_ok x hl
  rw [if_neg h] at hc
  (refine VCall.mk (fn := a46) rfl rfl rfl ?_; simp only [a46, inV, mkB, nmsL, PT.set])
  (repeat (first | refine VC.seq ?_ | refine VC.block ?_ | refine VC.kill ?_ | refine VC.skip ?_ | refine VC.exit ?_ | refine VC.regA ?_ | refine VC.condT ?_ | refine VC.condF ?_))
  refine VC.regCA ?_
  refine VO.call0A (no_orc 43 (by decide)) hc ?_
  refine VO.endA ?_
  (repeat (first | refine VC.seq ?_ | refine VC.block ?_ | refine VC.kill ?_ | refine VC.skip ?_ | refine VC.exit ?_ | refine VC.regA ?_ | refine VC.condT ?_ | refine VC.condF ?_))
  exact VC.ret (Fin.A rfl)
theorem open_ok (x : List Int) (h : okJ x) (c : Bool) (fs : List (List Int)) (hf : ∀ f ∈ fs, f.length ≤ 9223372036854775807) (hfs : fs.length < 100) :
    VCall cfg 46 [sl1 x, vb c, sl2 fs] [] [] (.tup [if fs.all (fillB x) then jugP x c else nilP, vi (if fs.all (fillB x) then 0 else 1)]) [] := by
  have hl : x.length ≤ 9223372036854775807 := by have := h.2.1; omega
  have hc := Check_ok x hl
  rw [if_pos h] at hc
  have h4 := h.2.1
  generalize hr : fs.all (fillB x) = r
  (refine VCall.mk (fn := a46) rfl rfl rfl ?_; simp only [a46, inV, mkB, nmsL, PT.set])
  (repeat (first | refine VC.seq ?_ | refine VC.block ?_ | refine VC.kill ?_ | refine VC.skip ?_ | refine VC.exit ?_ | refine VC.regA ?_ | refine VC.condT ?_ | refine VC.condF ?_))
  refine VC.regCA ?_
  refine VO.call0A (no_orc 43 (by decide)) hc ?_
  refine VO.endA ?_
  (repeat (first | refine VC.seq ?_ | refine VC.block ?_ | refine VC.kill ?_ | refine VC.skip ?_ | refine VC.exit ?_ | refine VC.regA ?_ | refine VC.condT ?_ | refine VC.condF ?_))
  have h1 : List.take x.length (x.map vi) = x.map vi := List.take_of_length_le (by simp)
  have h2 : (x.map vi).all okV = true := by simp [vi, okV, noref, nos]
  have h3 : 1 + x.length ≤ 1 + 1 + 1 + 1 + 1 + 1 := by omega
  have h6 := put_pad x h4 x.length (vb c)
  simp only [vi, vb] at h6
  apply VC.regU
  · (simp (config := {decide := false, maxSteps := 1000000}) (disch := omega) only [vev_call, putC_c0, putC_n0, putC_cs, ble0, List.getElem?_cons_zero, List.getElem?_cons_succ, runU, isCall, wantV, vev, evV, ofVal, ofAtom, atomB, cond_true, cond_false, PT.get, PT.set, PT.filt, PT.map, Option.getD_some, Option.getD_none, ret1V, ret1X, v_ld, v_ias, v_iad, v_fad, v_slsl, v_slarr, v_st, v_app, v_cpy, v_len, v_look, v_mset, elsV, partV, newV, free, atV, atI, atL, toVal, cellsV, okV, VSt.put, VSt.kill, VSt.alloc, VSt.frz, VSt.adopt, noref, norefB, deadB, deadV, nos, nm, nmL, nmB, nmE, Pa.eqb, Bool.not_false, Bool.not_true, Bool.and_true, Bool.true_and, Bool.false_and, Bool.and_false, bin, intOps, intBin, cvt, un, goInt, bndsV, bndV, Option.map_some, Option.map_none, List.map_cons, List.map_nil, Int.toNat_natCast, Nat.mul_one, Nat.zero_add, beq_true, beq_false, beq_self_eq_true, List.length_map, List.length_cons, List.length_nil, List.length_append, fillV, pEvV, repsV, List.append_nil, List.nil_append, if_pos, if_neg, reduceIte, List.getElem?_map, List.getElem?_drop, Nat.add_zero, List.getElem?_eq_getElem, Go.IntWalk.i64_in, wrap_u64, tmod_pos, eq_self, true_and, and_true, and_self, List.all_cons, List.all_nil, nmL_vi, flV_len, flP_len, flV_nm, flV_ok, flV_pv, flP_map, drop_flP, drop_flV, putC_flV, eqV2, eqV3, bneT, bneF, decide_true, decide_false, frzL_vi, frzL_flV, eqV_slice, eqV_ptr, eqV_func, nilS, nilP, nilF, nmL_append, okL_vi, toPVs_vi, toPVs, toPV, frzV, frzL, frzB, resVV, vi, vb, nilV, sl1, bl1, pi, foldV, max2, min2, max_eq, min_eq, Int.tdiv_eq_ediv_of_nonneg, Int.cast_ofNat_Int, Option.isSome_none, Option.isSome_some, Option.isNone_none, Option.isNone_some, and_false, false_and, sl2, sl1P, slP, min_cast, take_map_pi, map_pi, Nat.sub_zero, Nat.zero_mul, List.length_take, decide_eq_true, decide_eq_false, Bool.true_eq_false, Bool.false_eq_true, beqT, beqF, ibeq, ibne, List.take_zero, List.take_succ_cons, List.drop_zero, List.drop_succ_cons, List.drop_nil, List.take_nil, List.cons_append, Bool.not_true, Bool.not_false, true_or, or_true, if_true, h1, h2, h3, ne_eq, true_and, and_true, Nat.succ_ne_self, not_false_eq_true, reduceCtorEq, Nat.one_ne_zero, Nat.min_eq_left h4, h6])
    rfl
  (repeat (first | refine VC.seq ?_ | refine VC.block ?_ | refine VC.kill ?_ | refine VC.skip ?_ | refine VC.exit ?_ | refine VC.regA ?_ | refine VC.condT ?_ | refine VC.condF ?_))
  refine VC.loopG (fun (i : Nat) => ⟨inV [p0, p9, p30, p31, p32] [sl1 x, .op 0 p23 0, sl2 fs, vi fs.length, vi i] .lf, mkB [(p23, .cells (vi x.length :: ((pad4 x).map vi ++ [vb c])))] .lf, [], none⟩) (fun n i => n = fs.length - i ∧ i ≤ fs.length ∧ (fs.take i).all (fillB x) = true) (x := 0) ?_ ⟨rfl, by omega, by simp⟩ ?_
  · (apply G.weak; constructor <;> simp (config := {decide := true}) only [PT.Le, inV, mkB, PT.set, VSt.kill, VSt.adopt, VSt.alloc, PT.filt, PT.map, List.map_cons, List.map_nil, noref, norefB, deadB, deadV, nos, nm, nmL, nmB, nmE, Pa.eqb, cond_true, cond_false, Bool.not_true, Bool.not_false, Bool.and_true, Bool.true_and, nmL_vi, flV_len, flP_len, flV_nm, flV_ok, flV_pv, flP_map, drop_flP, drop_flV, putC_flV, eqV2, eqV3, bneT, bneF, decide_true, decide_false, frzL_vi, frzL_flV, eqV_slice, eqV_ptr, eqV_func, nilS, nilP, nilF, nmL_append, true_or, or_true, and_self, true_and, and_true, Option.some.injEq, reduceCtorEq, false_or, or_false, VV.p.injEq, PV.at.injEq, Value.int.injEq, sl1, vi, bl1, vb, nilV]); rfl
  rintro n i ⟨hn, hi, hx⟩
  simp only [inV, PT.set, mkB]
  (repeat (first | refine VC.seq ?_ | refine VC.block ?_ | refine VC.kill ?_ | refine VC.skip ?_ | refine VC.exit ?_ | refine VC.regA ?_ | refine VC.condT ?_ | refine VC.condF ?_))
  refine VC.condA ?_ ?_ <;> intro h <;> (simp only [decide_eq_true_eq, decide_eq_false_iff_not, bne_iff_ne, ne_eq, bne_eq_false_iff_eq, beq_iff_eq, beq_eq_false_iff_ne, Bool.not_eq_true', Bool.not_eq_false', Bool.and_eq_true, Bool.or_eq_true, Int.natCast_inj] at h)
  · have h : i < fs.length := by omega
    have hfi := hf _ (List.getElem_mem h)
    (repeat (first | refine VC.seq ?_ | refine VC.block ?_ | refine VC.kill ?_ | refine VC.skip ?_ | refine VC.exit ?_ | refine VC.regA ?_ | refine VC.condT ?_ | refine VC.condF ?_))
    try simp only [PT.set]
    have hnot : fillB x fs[i] = false → fs.all (fillB x) = false := fun hb => by
      rw [← Bool.not_eq_true, List.all_eq_true]
      exact fun ha => by have := ha _ (List.getElem_mem h); rw [hb] at this; simp at this
    refine VC.condA ?_ ?_ <;> intro h5 <;> (simp only [decide_eq_true_eq, decide_eq_false_iff_not, bne_iff_ne, ne_eq, bne_eq_false_iff_eq, beq_iff_eq, beq_eq_false_iff_ne, Bool.not_eq_true', Bool.not_eq_false', Bool.and_eq_true, Bool.or_eq_true, Int.natCast_inj] at h5)
    · (repeat (first | refine VC.seq ?_ | refine VC.block ?_ | refine VC.kill ?_ | refine VC.skip ?_ | refine VC.exit ?_ | refine VC.regA ?_ | refine VC.condT ?_ | refine VC.condF ?_))
      have : fillB x fs[i] = false := by rw [← Bool.not_eq_true, fillB_iff]; exact fun h => h5 h.1
      obtain rfl := hr.symm.trans (hnot this)
      exact VC.ret (Fin.A rfl)
    have h5 : fs[i].length = x.length := by omega
    (repeat (first | refine VC.seq ?_ | refine VC.block ?_ | refine VC.kill ?_ | refine VC.skip ?_ | refine VC.exit ?_ | refine VC.regA ?_ | refine VC.condT ?_ | refine VC.condF ?_))
    refine VC.loopG (fun (k : Nat) => ⟨inV [p0, p9, p30, p31, p32, p43, p44, p45] [sl1 x, .op 0 p23 0, sl2 fs, vi fs.length, vi i, sl1 fs[i], vi fs[i].length, vi k] .lf, mkB [(p23, .cells (vi x.length :: ((pad4 x).map vi ++ [vb c])))] .lf, [], none⟩) (fun n k => n = fs[i].length - k ∧ k ≤ fs[i].length ∧ ∀ (q : Nat) (h : q < fs[i].length) (h' : q < x.length), q < k → 0 ≤ fs[i][q] ∧ fs[i][q] ≤ x[q]) (x := 0) ?_ ⟨rfl, by omega, fun k _ _ h => by omega⟩ ?_
    · (apply G.weak; constructor <;> simp (config := {decide := true}) only [PT.Le, inV, mkB, PT.set, VSt.kill, VSt.adopt, VSt.alloc, PT.filt, PT.map, List.map_cons, List.map_nil, noref, norefB, deadB, deadV, nos, nm, nmL, nmB, nmE, Pa.eqb, cond_true, cond_false, Bool.not_true, Bool.not_false, Bool.and_true, Bool.true_and, nmL_vi, flV_len, flP_len, flV_nm, flV_ok, flV_pv, flP_map, drop_flP, drop_flV, putC_flV, eqV2, eqV3, bneT, bneF, decide_true, decide_false, frzL_vi, frzL_flV, eqV_slice, eqV_ptr, eqV_func, nilS, nilP, nilF, nmL_append, true_or, or_true, and_self, true_and, and_true, Option.some.injEq, reduceCtorEq, false_or, or_false, VV.p.injEq, PV.at.injEq, Value.int.injEq, sl1, vi, bl1, vb, nilV]); rfl
    rintro m k ⟨hm, hk, hkx⟩
    simp only [inV, PT.set, mkB]
    (repeat (first | refine VC.seq ?_ | refine VC.block ?_ | refine VC.kill ?_ | refine VC.skip ?_ | refine VC.exit ?_ | refine VC.regA ?_ | refine VC.condT ?_ | refine VC.condF ?_))
    refine VC.condA ?_ ?_ <;> intro h7 <;> (simp only [decide_eq_true_eq, decide_eq_false_iff_not, bne_iff_ne, ne_eq, bne_eq_false_iff_eq, beq_iff_eq, beq_eq_false_iff_ne, Bool.not_eq_true', Bool.not_eq_false', Bool.and_eq_true, Bool.or_eq_true, Int.natCast_inj] at h7)
    · have h7 : k < fs[i].length := by omega
      have h8 : k < x.length := by omega
      have hno : (fs[i][k] < 0 ∨ x[k] < fs[i][k]) → fs.all (fillB x) = false := fun hb => hnot (by
        rw [← Bool.not_eq_true, fillB_iff]
        intro hk
        have := hk.2 k h7 h8
        omega)
      by_cases g1 : fs[i][k] < 0
      · (repeat (first | refine VC.seq ?_ | refine VC.block ?_ | refine VC.kill ?_ | refine VC.skip ?_ | refine VC.exit ?_ | refine VC.regA ?_ | refine VC.condT ?_ | refine VC.condF ?_))
        obtain rfl := hr.symm.trans (hno (.inl g1))
        exact VC.ret (Fin.A rfl)
      by_cases g2 : x[k] < fs[i][k]
      · (repeat (first | refine VC.seq ?_ | refine VC.block ?_ | refine VC.kill ?_ | refine VC.skip ?_ | refine VC.exit ?_ | refine VC.regA ?_ | refine VC.condT ?_ | refine VC.condF ?_))
        obtain rfl := hr.symm.trans (hno (.inr g2))
        exact VC.ret (Fin.A rfl)
      (repeat (first | refine VC.seq ?_ | refine VC.block ?_ | refine VC.kill ?_ | refine VC.skip ?_ | refine VC.exit ?_ | refine VC.regA ?_ | refine VC.condT ?_ | refine VC.condF ?_))
      refine ⟨_, k + 1, ?_, ⟨rfl, by omega, ?_⟩, ?_⟩
      · omega
      · intro q hq hq' hlt
        rcases Nat.lt_or_ge q k with h3 | h3
        · exact hkx q hq hq' h3
        · have : q = k := by omega
          subst this; omega
      · (apply G.weak; constructor <;> simp (config := {decide := true}) only [PT.Le, inV, mkB, PT.set, VSt.kill, VSt.adopt, VSt.alloc, PT.filt, PT.map, List.map_cons, List.map_nil, noref, norefB, deadB, deadV, nos, nm, nmL, nmB, nmE, Pa.eqb, cond_true, cond_false, Bool.not_true, Bool.not_false, Bool.and_true, Bool.true_and, nmL_vi, flV_len, flP_len, flV_nm, flV_ok, flV_pv, flP_map, drop_flP, drop_flV, putC_flV, eqV2, eqV3, bneT, bneF, decide_true, decide_false, frzL_vi, frzL_flV, eqV_slice, eqV_ptr, eqV_func, nilS, nilP, nilF, nmL_append, true_or, or_true, and_self, true_and, and_true, Option.some.injEq, reduceCtorEq, false_or, or_false, VV.p.injEq, PV.at.injEq, Value.int.injEq, sl1, vi, bl1, vb, nilV, sl2]); rfl
    · (repeat (first | refine VC.seq ?_ | refine VC.block ?_ | refine VC.kill ?_ | refine VC.skip ?_ | refine VC.exit ?_ | refine VC.regA ?_ | refine VC.condT ?_ | refine VC.condF ?_))
      refine ⟨_, i + 1, ?_, ⟨rfl, by omega, ?_⟩, ?_⟩
      · omega
      · rw [List.take_add_one, List.getElem?_eq_getElem h, List.all_append, hx]
        simp only [Option.toList_some, List.all_cons, List.all_nil, Bool.and_true, Bool.true_and]
        exact (fillB_iff _ _).2 ⟨h5, fun q hq hq' => hkx q hq hq' (by omega)⟩
      · (apply G.weak; constructor <;> simp (config := {decide := true}) only [PT.Le, inV, mkB, PT.set, VSt.kill, VSt.adopt, VSt.alloc, PT.filt, PT.map, List.map_cons, List.map_nil, noref, norefB, deadB, deadV, nos, nm, nmL, nmB, nmE, Pa.eqb, cond_true, cond_false, Bool.not_true, Bool.not_false, Bool.and_true, Bool.true_and, nmL_vi, flV_len, flP_len, flV_nm, flV_ok, flV_pv, flP_map, drop_flP, drop_flV, putC_flV, eqV2, eqV3, bneT, bneF, decide_true, decide_false, frzL_vi, frzL_flV, eqV_slice, eqV_ptr, eqV_func, nilS, nilP, nilF, nmL_append, true_or, or_true, and_self, true_and, and_true, Option.some.injEq, reduceCtorEq, false_or, or_false, VV.p.injEq, PV.at.injEq, Value.int.injEq, sl1, vi, bl1, vb, nilV, sl2]); rfl
  · rw [List.take_of_length_le (by omega)] at hx
    obtain rfl := hr.symm.trans hx
    (repeat (first | refine VC.seq ?_ | refine VC.block ?_ | refine VC.kill ?_ | refine VC.skip ?_ | refine VC.exit ?_ | refine VC.regA ?_ | refine VC.condT ?_ | refine VC.condF ?_))
    exact VC.ret (Fin.frzA p23 (hb := rfl) (hc := jug_pvs x h4 c) (Fin.A rfl))
end Go.Ab.Jug

namespace Go.Ab.Jug
open Go.Ab.V
set_option maxRecDepth 100000
def openV (x : List Int) (fs : List (List Int)) : Int := if okJ x then (if fs.all (fillB x) then 0 else 1) else 20
def openJ (x : List Int) (c : Bool) (fs : List (List Int)) : VV := if openV x fs = 0 then jugP x c else nilP
theorem opens (x : List Int) (c : Bool) (fs : List (List Int)) (hl : x.length ≤ 9223372036854775807) (hf : ∀ f ∈ fs, f.length ≤ 9223372036854775807) (hfs : fs.length < 100) :
    VCall cfg 46 [sl1 x, vb c, sl2 fs] [] [] (.tup [openJ x c fs, vi (openV x fs)]) [] := by
  unfold openJ openV
  by_cases h : okJ x
  · have := open_ok x h c fs hf hfs
    rw [if_pos h]
    cases hr : fs.all (fillB x) with
    | true => rw [hr] at this; exact this
    | false => rw [hr] at this; exact this
  · rw [if_neg h]
    exact open_no x hl h c _
theorem CheckFilling_ok (x f : List Int) (hl : x.length ≤ 9223372036854775807) (hf : f.length ≤ 9223372036854775807) : VCall cfg 45 [sl1 x, sl1 f] [] [] (vi (openV x [f])) [] := by
  have ho := opens x false [f] hl (by simpa using hf) (by simp)
  (refine VCall.mk (fn := a45) rfl rfl rfl ?_; simp only [a45, inV, mkB, nmsL, PT.set])
  (repeat (first | refine VC.seq ?_ | refine VC.block ?_ | refine VC.kill ?_ | refine VC.skip ?_ | refine VC.exit ?_ | refine VC.regA ?_ | refine VC.condT ?_ | refine VC.condF ?_))
  refine VC.regCA ?_
  refine VO.moreA ?_
  refine VO.frzA p10 ?_
  refine VO.call0A (no_orc 46 (by decide)) ho ?_
  refine VO.endA ?_
  (repeat (first | refine VC.seq ?_ | refine VC.block ?_ | refine VC.kill ?_ | refine VC.skip ?_ | refine VC.exit ?_ | refine VC.regA ?_ | refine VC.condT ?_ | refine VC.condF ?_))
  exact VC.ret (Fin.A rfl)
theorem Steps_err (x f : List Int) (c : Bool) (hl : x.length ≤ 9223372036854775807) (hf : f.length ≤ 9223372036854775807) (e : Int) (he : openV x [f] = e) (h0 : e ≠ 0) : VCall cfg 18 [sl1 x, sl1 f, vb c] [] [] (.tup [nilV, vi e]) [] := by
  have ho := opens x c [f] hl (by simpa using hf) (by simp)
  rw [he] at ho
  (refine VCall.mk (fn := a18) rfl rfl rfl ?_; simp only [a18, inV, mkB, nmsL, PT.set])
  (repeat (first | refine VC.seq ?_ | refine VC.block ?_ | refine VC.kill ?_ | refine VC.skip ?_ | refine VC.exit ?_ | refine VC.regA ?_ | refine VC.condT ?_ | refine VC.condF ?_))
  refine VC.regCA ?_
  refine VO.moreA ?_
  refine VO.frzA p16 ?_
  refine VO.call0A (no_orc 46 (by decide)) ho ?_
  refine VO.endA ?_
  (repeat (first | refine VC.seq ?_ | refine VC.block ?_ | refine VC.kill ?_ | refine VC.skip ?_ | refine VC.exit ?_ | refine VC.regA ?_ | refine VC.condT ?_ | refine VC.condF ?_))
  exact VC.ret (Fin.A rfl)
theorem Pour_err (x f : List Int) (hl : x.length ≤ 9223372036854775807) (hf : f.length ≤ 9223372036854775807) (e : Int) (he : openV x [f] = e) (h0 : e ≠ 0) : VCall cfg 40 [sl1 x, sl1 f, nilV] [] [] (.tup [nilV, vi 0, vi e]) [] := by
  have ho := opens x false [f] hl (by simpa using hf) (by simp)
  rw [he] at ho
  (refine VCall.mk (fn := a40) rfl rfl rfl ?_; simp only [a40, inV, mkB, nmsL, PT.set])
  (repeat (first | refine VC.seq ?_ | refine VC.block ?_ | refine VC.kill ?_ | refine VC.skip ?_ | refine VC.exit ?_ | refine VC.regA ?_ | refine VC.condT ?_ | refine VC.condF ?_))
  refine VC.regCA ?_
  refine VO.moreA ?_
  refine VO.frzA p20 ?_
  refine VO.call0A (no_orc 46 (by decide)) ho ?_
  refine VO.endA ?_
  (repeat (first | refine VC.seq ?_ | refine VC.block ?_ | refine VC.kill ?_ | refine VC.skip ?_ | refine VC.exit ?_ | refine VC.regA ?_ | refine VC.condT ?_ | refine VC.condF ?_))
  exact VC.ret (Fin.A rfl)
theorem Way_err (x f g : List Int) (c : Bool) (hl : x.length ≤ 9223372036854775807) (hf : f.length ≤ 9223372036854775807) (hg : g.length ≤ 9223372036854775807) (e : Int) (he : openV x [f, g] = e) (h0 : e ≠ 0) : VCall cfg 22 [sl1 x, sl1 f, sl1 g, vb c] [] [] (.tup [nilV, vb false, vi e]) [] := by
  have ho := opens x c [f, g] hl (by intro q hq; simp at hq; rcases hq with rfl | rfl <;> assumption) (by simp)
  rw [he] at ho
  (refine VCall.mk (fn := a22) rfl rfl rfl ?_; simp only [a22, inV, mkB, nmsL, PT.set])
  (repeat (first | refine VC.seq ?_ | refine VC.block ?_ | refine VC.kill ?_ | refine VC.skip ?_ | refine VC.exit ?_ | refine VC.regA ?_ | refine VC.condT ?_ | refine VC.condF ?_))
  refine VC.regCA ?_
  refine VO.moreA ?_
  refine VO.frzA p21 ?_
  refine VO.call0A (no_orc 46 (by decide)) ho ?_
  refine VO.endA ?_
  (repeat (first | refine VC.seq ?_ | refine VC.block ?_ | refine VC.kill ?_ | refine VC.skip ?_ | refine VC.exit ?_ | refine VC.regA ?_ | refine VC.condT ?_ | refine VC.condF ?_))
  exact VC.ret (Fin.A rfl)
theorem Reached_err (x f : List Int) (c : Bool) (hl : x.length ≤ 9223372036854775807) (hf : f.length ≤ 9223372036854775807) (e : Int) (he : openV x [f] = e) (h0 : e ≠ 0) : VCall cfg 38 [sl1 x, sl1 f, vb c] [] [] (.tup [vi 0, vi e]) [] := by
  have ho := opens x c [f] hl (by simpa using hf) (by simp)
  rw [he] at ho
  (refine VCall.mk (fn := a38) rfl rfl rfl ?_; simp only [a38, inV, mkB, nmsL, PT.set])
  (repeat (first | refine VC.seq ?_ | refine VC.block ?_ | refine VC.kill ?_ | refine VC.skip ?_ | refine VC.exit ?_ | refine VC.regA ?_ | refine VC.condT ?_ | refine VC.condF ?_))
  refine VC.regCA ?_
  refine VO.moreA ?_
  refine VO.frzA p14 ?_
  refine VO.call0A (no_orc 46 (by decide)) ho ?_
  refine VO.endA ?_
  (repeat (first | refine VC.seq ?_ | refine VC.block ?_ | refine VC.kill ?_ | refine VC.skip ?_ | refine VC.exit ?_ | refine VC.regA ?_ | refine VC.condT ?_ | refine VC.condF ?_))
  exact VC.ret (Fin.A rfl)
theorem Farthest_err (x f : List Int) (c : Bool) (hl : x.length ≤ 9223372036854775807) (hf : f.length ≤ 9223372036854775807) (e : Int) (he : openV x [f] = e) (h0 : e ≠ 0) : VCall cfg 39 [sl1 x, sl1 f, vb c] [] [] (.tup [vi 0, vi e]) [] := by
  have ho := opens x c [f] hl (by simpa using hf) (by simp)
  rw [he] at ho
  (refine VCall.mk (fn := a39) rfl rfl rfl ?_; simp only [a39, inV, mkB, nmsL, PT.set])
  (repeat (first | refine VC.seq ?_ | refine VC.block ?_ | refine VC.kill ?_ | refine VC.skip ?_ | refine VC.exit ?_ | refine VC.regA ?_ | refine VC.condT ?_ | refine VC.condF ?_))
  refine VC.regCA ?_
  refine VO.moreA ?_
  refine VO.frzA p17 ?_
  refine VO.call0A (no_orc 46 (by decide)) ho ?_
  refine VO.endA ?_
  (repeat (first | refine VC.seq ?_ | refine VC.block ?_ | refine VC.kill ?_ | refine VC.skip ?_ | refine VC.exit ?_ | refine VC.regA ?_ | refine VC.condT ?_ | refine VC.condF ?_))
  exact VC.ret (Fin.A rfl)
theorem Back_err (x f g : List Int) (hl : x.length ≤ 9223372036854775807) (hf : f.length ≤ 9223372036854775807) (hg : g.length ≤ 9223372036854775807) (e : Int) (he : openV x [f, g] = e) (h0 : e ≠ 0) : VCall cfg 37 [sl1 x, sl1 f, sl1 g] [] [] (.tup [vb false, vi e]) [] := by
  have ho := opens x false [f, g] hl (by intro q hq; simp at hq; rcases hq with rfl | rfl <;> assumption) (by simp)
  rw [he] at ho
  (refine VCall.mk (fn := a37) rfl rfl rfl ?_; simp only [a37, inV, mkB, nmsL, PT.set])
  (repeat (first | refine VC.seq ?_ | refine VC.block ?_ | refine VC.kill ?_ | refine VC.skip ?_ | refine VC.exit ?_ | refine VC.regA ?_ | refine VC.condT ?_ | refine VC.condF ?_))
  refine VC.regCA ?_
  refine VO.moreA ?_
  refine VO.frzA p20 ?_
  refine VO.call0A (no_orc 46 (by decide)) ho ?_
  refine VO.endA ?_
  (repeat (first | refine VC.seq ?_ | refine VC.block ?_ | refine VC.kill ?_ | refine VC.skip ?_ | refine VC.exit ?_ | refine VC.regA ?_ | refine VC.condT ?_ | refine VC.condF ?_))
  exact VC.ret (Fin.A rfl)
theorem measured_err (x : List Int) (a : Int) (hl : x.length ≤ 9223372036854775807) (h : ¬okJ x) : VCall cfg 59 [sl1 x, vi a] [] [] (.tup [nilV, vb false, vi 20]) [] := by
  have ho := open_no x hl h false nilV
  (refine VCall.mk (fn := a59) rfl rfl rfl ?_; simp only [a59, inV, mkB, nmsL, PT.set])
  (repeat (first | refine VC.seq ?_ | refine VC.block ?_ | refine VC.kill ?_ | refine VC.skip ?_ | refine VC.exit ?_ | refine VC.regA ?_ | refine VC.condT ?_ | refine VC.condF ?_))
  refine VC.regCA ?_
  refine VO.moreA ?_
  refine VO.call0A (no_orc 46 (by decide)) ho ?_
  refine VO.endA ?_
  (repeat (first | refine VC.seq ?_ | refine VC.block ?_ | refine VC.kill ?_ | refine VC.skip ?_ | refine VC.exit ?_ | refine VC.regA ?_ | refine VC.condT ?_ | refine VC.condF ?_))
  exact VC.ret (Fin.A rfl)
theorem Measure_err (x : List Int) (a : Int) (hl : x.length ≤ 9223372036854775807) (h : ¬okJ x) : VCall cfg 34 [sl1 x, vi a] [] [] (.tup [nilV, vb false, vi 20]) [] := by
  have ho := measured_err x a hl h
  (refine VCall.mk (fn := a34) rfl rfl rfl ?_; simp only [a34, inV, mkB, nmsL, PT.set])
  (repeat (first | refine VC.seq ?_ | refine VC.block ?_ | refine VC.kill ?_ | refine VC.skip ?_ | refine VC.exit ?_ | refine VC.regA ?_ | refine VC.condT ?_ | refine VC.condF ?_))
  refine VC.regCA ?_
  refine VO.moreA ?_
  refine VO.call0A (no_orc 59 (by decide)) ho ?_
  refine VO.endA ?_
  (repeat (first | refine VC.seq ?_ | refine VC.block ?_ | refine VC.kill ?_ | refine VC.skip ?_ | refine VC.exit ?_ | refine VC.regA ?_ | refine VC.condT ?_ | refine VC.condF ?_))
  exact VC.ret (Fin.A rfl)
theorem Fewest_err (x : List Int) (a : Int) (hl : x.length ≤ 9223372036854775807) (h : ¬okJ x) : VCall cfg 31 [sl1 x, vi a] [] [] (.tup [vi 0, vb false, vi 20]) [] := by
  have ho := measured_err x a hl h
  (refine VCall.mk (fn := a31) rfl rfl rfl ?_; simp only [a31, inV, mkB, nmsL, PT.set])
  (repeat (first | refine VC.seq ?_ | refine VC.block ?_ | refine VC.kill ?_ | refine VC.skip ?_ | refine VC.exit ?_ | refine VC.regA ?_ | refine VC.condT ?_ | refine VC.condF ?_))
  refine VC.regCA ?_
  refine VO.moreA ?_
  refine VO.call0A (no_orc 59 (by decide)) ho ?_
  refine VO.endA ?_
  (repeat (first | refine VC.seq ?_ | refine VC.block ?_ | refine VC.kill ?_ | refine VC.skip ?_ | refine VC.exit ?_ | refine VC.regA ?_ | refine VC.condT ?_ | refine VC.condF ?_))
  exact VC.ret (Fin.A rfl)
end Go.Ab.Jug

namespace Go.Ab.Jug
open Go.Ab.V
set_option maxRecDepth 100000
theorem repsZ (n : Nat) : repsV [.p (.at (.int .i64 0))] n = (List.replicate n (0 : Int)).map vi := by rw [repsV_one, List.map_replicate]; rfl
theorem toPVs_map (z : List Int) : toPVs (z.map vi) = some (z.map pi) := by
  induction z with
  | nil => rfl
  | cons a z ih => simp only [List.map_cons, toPVs, ih]; rfl
theorem checks_ok (l m : List Int) (hl : l.length ≤ 9223372036854775807) (hm : m.length ≤ 9223372036854775807) : VCall cfg 15 [sl1 l, sl1 m] [] [] (vb true) [] := by
  have hx := few_ok l 5 (by omega) hl
  have hy := few_ok m 5 (by omega) hm
  have hx5 : (l.take 5).length ≤ 5 := List.length_take_le _ _
  have hy5 : (m.take 5).length ≤ 5 := List.length_take_le _ _
  generalize l.take 5 = x at *
  generalize m.take 5 = y at *
  have xl : x.length ≤ 9223372036854775807 := by omega
  have yl : y.length ≤ 9223372036854775807 := by omega
  have hj := Jugs_ok x xl
  have hc := Check_ok x xl
  have hd := CheckFilling_ok x y xl yl
  (refine VCall.mk (fn := a15) rfl rfl rfl ?_; simp only [a15, inV, mkB, nmsL, PT.set])
  (repeat (first | refine VC.seq ?_ | refine VC.block ?_ | refine VC.kill ?_ | refine VC.skip ?_ | refine VC.exit ?_ | refine VC.regA ?_ | refine VC.condT ?_ | refine VC.condF ?_))
  refine VC.regCA ?_
  refine VO.moreA ?_
  refine VO.call0A (no_orc 41 (by decide)) hx ?_
  refine VO.moreA ?_
  refine VO.call0A (no_orc 41 (by decide)) hy ?_
  refine VO.endA ?_
  (repeat (first | refine VC.seq ?_ | refine VC.block ?_ | refine VC.kill ?_ | refine VC.skip ?_ | refine VC.exit ?_ | refine VC.regA ?_ | refine VC.condT ?_ | refine VC.condF ?_))
  refine VC.regCA ?_
  refine VO.moreA ?_
  refine VO.call0A (no_orc 42 (by decide)) hj ?_
  refine VO.endA ?_
  by_cases h : okJ x
  · rw [if_pos h] at hc
    rw [decide_eq_true h]
    (repeat (first | refine VC.seq ?_ | refine VC.block ?_ | refine VC.kill ?_ | refine VC.skip ?_ | refine VC.exit ?_ | refine VC.regA ?_ | refine VC.condT ?_ | refine VC.condF ?_))
    refine VC.regCA ?_
    refine VO.moreA ?_
    refine VO.call0A (no_orc 43 (by decide)) (hc) ?_
    refine VO.endA ?_
    (repeat (first | refine VC.seq ?_ | refine VC.block ?_ | refine VC.kill ?_ | refine VC.skip ?_ | refine VC.exit ?_ | refine VC.regA ?_ | refine VC.condT ?_ | refine VC.condF ?_))
    refine VC.regCA ?_
    refine VO.moreA ?_
    refine VO.call0A (no_orc 44 (by decide)) (Filling_ok x y yl) ?_
    refine VO.endA ?_
    (repeat (first | refine VC.seq ?_ | refine VC.block ?_ | refine VC.kill ?_ | refine VC.skip ?_ | refine VC.exit ?_ | refine VC.regA ?_ | refine VC.condT ?_ | refine VC.condF ?_))
    cases hb : fillB x y with
    | true =>
      have he : openV x [y] = 0 := by simp [openV, h, hb]
      rw [he] at hd
      (repeat (first | refine VC.seq ?_ | refine VC.block ?_ | refine VC.kill ?_ | refine VC.skip ?_ | refine VC.exit ?_ | refine VC.regA ?_ | refine VC.condT ?_ | refine VC.condF ?_))
      refine VC.regCA ?_
      refine VO.moreA ?_
      refine VO.call0A (no_orc 45 (by decide)) hd ?_
      refine VO.endA ?_
      (repeat (first | refine VC.seq ?_ | refine VC.block ?_ | refine VC.kill ?_ | refine VC.skip ?_ | refine VC.exit ?_ | refine VC.regA ?_ | refine VC.condT ?_ | refine VC.condF ?_))
      refine VC.regCA ?_
      refine VO.knownA (.bool true) rfl ?_
      refine VO.endA ?_
      (repeat (first | refine VC.seq ?_ | refine VC.block ?_ | refine VC.kill ?_ | refine VC.skip ?_ | refine VC.exit ?_ | refine VC.regA ?_ | refine VC.condT ?_ | refine VC.condF ?_))
      exact VC.ret (Fin.A rfl)
    | false =>
    have he : openV x [y] = 1 := by simp [openV, h, hb]
    rw [he] at hd
    (repeat (first | refine VC.seq ?_ | refine VC.block ?_ | refine VC.kill ?_ | refine VC.skip ?_ | refine VC.exit ?_ | refine VC.regA ?_ | refine VC.condT ?_ | refine VC.condF ?_))
    refine VC.regCA ?_
    refine VO.moreA ?_
    refine VO.call0A (no_orc 45 (by decide)) (hd) ?_
    refine VO.endA ?_
    (repeat (first | refine VC.seq ?_ | refine VC.block ?_ | refine VC.kill ?_ | refine VC.skip ?_ | refine VC.exit ?_ | refine VC.regA ?_ | refine VC.condT ?_ | refine VC.condF ?_))
    have hz : (List.replicate x.length (0 : Int)).length = x.length := by simp
    have hrz := repsZ x.length
    have e3 : openV x [List.replicate x.length (0 : Int), y] = 1 := by simp [openV, h, hb]
    have e4 : openV x [y, List.replicate x.length (0 : Int)] = 1 := by simp [openV, h, hb]
    generalize List.replicate x.length (0 : Int) = z at *
    have hs : sl1 z = .p (.sl 1 x.length (z.map pi)) := by rw [sl1, hz]
    have zl : z.length ≤ 9223372036854775807 := by omega
    have w1 := Way_err x z y true xl zl yl 1 e3 (by decide)
    have w2 := Back_err x z y xl zl yl 1 e3 (by decide)
    have w3 := Way_err x y z false xl yl zl 1 e4 (by decide)
    rw [hs] at w1 w2 w3
    apply VC.regU
    · (simp (config := {decide := false, maxSteps := 1000000}) (disch := omega) only [vev_call, putC_c0, putC_n0, putC_cs, ble0, List.getElem?_cons_zero, List.getElem?_cons_succ, runU, isCall, wantV, vev, evV, ofVal, ofAtom, atomB, cond_true, cond_false, PT.get, PT.set, PT.filt, PT.map, Option.getD_some, Option.getD_none, ret1V, ret1X, v_ld, v_ias, v_iad, v_fad, v_slsl, v_slarr, v_st, v_app, v_cpy, v_len, v_look, v_mset, elsV, partV, newV, free, atV, atI, atL, toVal, cellsV, okV, VSt.put, VSt.kill, VSt.alloc, VSt.frz, VSt.adopt, noref, norefB, deadB, deadV, nos, nm, nmL, nmB, nmE, Pa.eqb, Bool.not_false, Bool.not_true, Bool.and_true, Bool.true_and, Bool.false_and, Bool.and_false, bin, intOps, intBin, cvt, un, goInt, bndsV, bndV, Option.map_some, Option.map_none, List.map_cons, List.map_nil, Int.toNat_natCast, Nat.mul_one, Nat.zero_add, beq_true, beq_false, beq_self_eq_true, List.length_map, List.length_cons, List.length_nil, List.length_append, fillV, pEvV, repsV, List.append_nil, List.nil_append, if_pos, if_neg, reduceIte, List.getElem?_map, List.getElem?_drop, Nat.add_zero, List.getElem?_eq_getElem, Go.IntWalk.i64_in, wrap_u64, tmod_pos, eq_self, true_and, and_true, and_self, List.all_cons, List.all_nil, nmL_vi, flV_len, flP_len, flV_nm, flV_ok, flV_pv, flP_map, drop_flP, drop_flV, putC_flV, eqV2, eqV3, bneT, bneF, decide_true, decide_false, frzL_vi, frzL_flV, eqV_slice, eqV_ptr, eqV_func, nilS, nilP, nilF, nmL_append, okL_vi, toPVs_vi, toPVs, toPV, frzV, frzL, frzB, resVV, vi, vb, nilV, sl1, bl1, pi, foldV, max2, min2, max_eq, min_eq, Int.tdiv_eq_ediv_of_nonneg, Int.cast_ofNat_Int, Option.isSome_none, Option.isSome_some, Option.isNone_none, Option.isNone_some, and_false, false_and, sl2, sl1P, slP, min_cast, take_map_pi, map_pi, Nat.sub_zero, Nat.zero_mul, List.length_take, decide_eq_true, decide_eq_false, Bool.true_eq_false, Bool.false_eq_true, beqT, beqF, ibeq, ibne, List.take_zero, List.take_succ_cons, List.drop_zero, List.drop_succ_cons, List.drop_nil, List.take_nil, List.cons_append, Bool.not_true, Bool.not_false, hrz, nmL_vi, Int.toNat_natCast, List.length_cons, List.length_nil, ne_eq, Nat.reduceAdd, Nat.one_ne_zero, not_false_eq_true, true_and, and_true, nos, nmL, nm])
      rfl
    refine VC.frzA p107 (hb := rfl) (hc := toPVs_map z) ?_
    (repeat (first | refine VC.seq ?_ | refine VC.block ?_ | refine VC.kill ?_ | refine VC.skip ?_ | refine VC.exit ?_ | refine VC.regA ?_ | refine VC.condT ?_ | refine VC.condF ?_))
    refine VC.regCA ?_
    refine VO.moreA ?_
    refine VO.call0A (no_orc 18 (by decide)) (Steps_err x y false xl yl 1 he (by decide)) ?_
    refine VO.endA ?_
    (repeat (first | refine VC.seq ?_ | refine VC.block ?_ | refine VC.kill ?_ | refine VC.skip ?_ | refine VC.exit ?_ | refine VC.regA ?_ | refine VC.condT ?_ | refine VC.condF ?_))
    refine VC.regCA ?_
    refine VO.moreA ?_
    refine VO.call0A (no_orc 40 (by decide)) (Pour_err x y xl yl 1 he (by decide)) ?_
    refine VO.endA ?_
    (repeat (first | refine VC.seq ?_ | refine VC.block ?_ | refine VC.kill ?_ | refine VC.skip ?_ | refine VC.exit ?_ | refine VC.regA ?_ | refine VC.condT ?_ | refine VC.condF ?_))
    refine VC.regCA ?_
    refine VO.moreA ?_
    refine VO.call0A (no_orc 22 (by decide)) (w1) ?_
    refine VO.endA ?_
    (repeat (first | refine VC.seq ?_ | refine VC.block ?_ | refine VC.kill ?_ | refine VC.skip ?_ | refine VC.exit ?_ | refine VC.regA ?_ | refine VC.condT ?_ | refine VC.condF ?_))
    refine VC.regCA ?_
    refine VO.moreA ?_
    refine VO.call0A (no_orc 38 (by decide)) (Reached_err x y false xl yl 1 he (by decide)) ?_
    refine VO.endA ?_
    (repeat (first | refine VC.seq ?_ | refine VC.block ?_ | refine VC.kill ?_ | refine VC.skip ?_ | refine VC.exit ?_ | refine VC.regA ?_ | refine VC.condT ?_ | refine VC.condF ?_))
    refine VC.regCA ?_
    refine VO.moreA ?_
    refine VO.call0A (no_orc 39 (by decide)) (Farthest_err x y true xl yl 1 he (by decide)) ?_
    refine VO.endA ?_
    (repeat (first | refine VC.seq ?_ | refine VC.block ?_ | refine VC.kill ?_ | refine VC.skip ?_ | refine VC.exit ?_ | refine VC.regA ?_ | refine VC.condT ?_ | refine VC.condF ?_))
    refine VC.regCA ?_
    refine VO.moreA ?_
    refine VO.call0A (no_orc 37 (by decide)) (w2) ?_
    refine VO.endA ?_
    (repeat (first | refine VC.seq ?_ | refine VC.block ?_ | refine VC.kill ?_ | refine VC.skip ?_ | refine VC.exit ?_ | refine VC.regA ?_ | refine VC.condT ?_ | refine VC.condF ?_))
    refine VC.regCA ?_
    refine VO.moreA ?_
    refine VO.call0A (no_orc 22 (by decide)) (w3) ?_
    refine VO.endA ?_
    (repeat (first | refine VC.seq ?_ | refine VC.block ?_ | refine VC.kill ?_ | refine VC.skip ?_ | refine VC.exit ?_ | refine VC.regA ?_ | refine VC.condT ?_ | refine VC.condF ?_))
    refine VC.regCA ?_
    refine VO.moreA ?_
    refine VO.knownA (.bool true) rfl ?_
    refine VO.endA ?_
    (repeat (first | refine VC.seq ?_ | refine VC.block ?_ | refine VC.kill ?_ | refine VC.skip ?_ | refine VC.exit ?_ | refine VC.regA ?_ | refine VC.condT ?_ | refine VC.condF ?_))
    exact VC.ret (Fin.A rfl)
  · have he : openV x [y] = 20 := by rw [openV, if_neg h]
    rw [if_neg h] at hc
    rw [decide_eq_false h]
    (repeat (first | refine VC.seq ?_ | refine VC.block ?_ | refine VC.kill ?_ | refine VC.skip ?_ | refine VC.exit ?_ | refine VC.regA ?_ | refine VC.condT ?_ | refine VC.condF ?_))
    refine VC.regCA ?_
    refine VO.moreA ?_
    refine VO.call0A (no_orc 43 (by decide)) hc ?_
    refine VO.endA ?_
    (repeat (first | refine VC.seq ?_ | refine VC.block ?_ | refine VC.kill ?_ | refine VC.skip ?_ | refine VC.exit ?_ | refine VC.regA ?_ | refine VC.condT ?_ | refine VC.condF ?_))
    refine VC.regCA ?_
    refine VO.moreA ?_
    refine VO.call0A (no_orc 34 (by decide)) (Measure_err x 1 xl h) ?_
    refine VO.endA ?_
    (repeat (first | refine VC.seq ?_ | refine VC.block ?_ | refine VC.kill ?_ | refine VC.skip ?_ | refine VC.exit ?_ | refine VC.regA ?_ | refine VC.condT ?_ | refine VC.condF ?_))
    refine VC.regCA ?_
    refine VO.moreA ?_
    refine VO.call0A (no_orc 30 (by decide)) (Amounts_no x xl h) ?_
    refine VO.endA ?_
    (repeat (first | refine VC.seq ?_ | refine VC.block ?_ | refine VC.kill ?_ | refine VC.skip ?_ | refine VC.exit ?_ | refine VC.regA ?_ | refine VC.condT ?_ | refine VC.condF ?_))
    refine VC.regCA ?_
    refine VO.moreA ?_
    refine VO.call0A (no_orc 31 (by decide)) (Fewest_err x 1 xl h) ?_
    refine VO.endA ?_
    (repeat (first | refine VC.seq ?_ | refine VC.block ?_ | refine VC.kill ?_ | refine VC.skip ?_ | refine VC.exit ?_ | refine VC.regA ?_ | refine VC.condT ?_ | refine VC.condF ?_))
    rw [he] at hd
    refine VC.regCA ?_
    refine VO.moreA ?_
    refine VO.call0A (no_orc 45 (by decide)) hd ?_
    refine VO.endA ?_
    (repeat (first | refine VC.seq ?_ | refine VC.block ?_ | refine VC.kill ?_ | refine VC.skip ?_ | refine VC.exit ?_ | refine VC.regA ?_ | refine VC.condT ?_ | refine VC.condF ?_))
    have hz : (List.replicate x.length (0 : Int)).length = x.length := by simp
    have hrz := repsZ x.length
    have e3 : openV x [List.replicate x.length (0 : Int), y] = 20 := by rw [openV, if_neg h]
    have e4 : openV x [y, List.replicate x.length (0 : Int)] = 20 := by rw [openV, if_neg h]
    generalize List.replicate x.length (0 : Int) = z at *
    have hs : sl1 z = .p (.sl 1 x.length (z.map pi)) := by rw [sl1, hz]
    have zl : z.length ≤ 9223372036854775807 := by omega
    have w1 := Way_err x z y true xl zl yl 20 e3 (by decide)
    have w2 := Back_err x z y xl zl yl 20 e3 (by decide)
    have w3 := Way_err x y z false xl yl zl 20 e4 (by decide)
    rw [hs] at w1 w2 w3
    apply VC.regU
    · (simp (config := {decide := false, maxSteps := 1000000}) (disch := omega) only [vev_call, putC_c0, putC_n0, putC_cs, ble0, List.getElem?_cons_zero, List.getElem?_cons_succ, runU, isCall, wantV, vev, evV, ofVal, ofAtom, atomB, cond_true, cond_false, PT.get, PT.set, PT.filt, PT.map, Option.getD_some, Option.getD_none, ret1V, ret1X, v_ld, v_ias, v_iad, v_fad, v_slsl, v_slarr, v_st, v_app, v_cpy, v_len, v_look, v_mset, elsV, partV, newV, free, atV, atI, atL, toVal, cellsV, okV, VSt.put, VSt.kill, VSt.alloc, VSt.frz, VSt.adopt, noref, norefB, deadB, deadV, nos, nm, nmL, nmB, nmE, Pa.eqb, Bool.not_false, Bool.not_true, Bool.and_true, Bool.true_and, Bool.false_and, Bool.and_false, bin, intOps, intBin, cvt, un, goInt, bndsV, bndV, Option.map_some, Option.map_none, List.map_cons, List.map_nil, Int.toNat_natCast, Nat.mul_one, Nat.zero_add, beq_true, beq_false, beq_self_eq_true, List.length_map, List.length_cons, List.length_nil, List.length_append, fillV, pEvV, repsV, List.append_nil, List.nil_append, if_pos, if_neg, reduceIte, List.getElem?_map, List.getElem?_drop, Nat.add_zero, List.getElem?_eq_getElem, Go.IntWalk.i64_in, wrap_u64, tmod_pos, eq_self, true_and, and_true, and_self, List.all_cons, List.all_nil, nmL_vi, flV_len, flP_len, flV_nm, flV_ok, flV_pv, flP_map, drop_flP, drop_flV, putC_flV, eqV2, eqV3, bneT, bneF, decide_true, decide_false, frzL_vi, frzL_flV, eqV_slice, eqV_ptr, eqV_func, nilS, nilP, nilF, nmL_append, okL_vi, toPVs_vi, toPVs, toPV, frzV, frzL, frzB, resVV, vi, vb, nilV, sl1, bl1, pi, foldV, max2, min2, max_eq, min_eq, Int.tdiv_eq_ediv_of_nonneg, Int.cast_ofNat_Int, Option.isSome_none, Option.isSome_some, Option.isNone_none, Option.isNone_some, and_false, false_and, sl2, sl1P, slP, min_cast, take_map_pi, map_pi, Nat.sub_zero, Nat.zero_mul, List.length_take, decide_eq_true, decide_eq_false, Bool.true_eq_false, Bool.false_eq_true, beqT, beqF, ibeq, ibne, List.take_zero, List.take_succ_cons, List.drop_zero, List.drop_succ_cons, List.drop_nil, List.take_nil, List.cons_append, Bool.not_true, Bool.not_false, hrz, nmL_vi, Int.toNat_natCast, List.length_cons, List.length_nil, ne_eq, Nat.reduceAdd, Nat.one_ne_zero, not_false_eq_true, true_and, and_true, nos, nmL, nm])
      rfl
    refine VC.frzA p107 (hb := rfl) (hc := toPVs_map z) ?_
    (repeat (first | refine VC.seq ?_ | refine VC.block ?_ | refine VC.kill ?_ | refine VC.skip ?_ | refine VC.exit ?_ | refine VC.regA ?_ | refine VC.condT ?_ | refine VC.condF ?_))
    refine VC.regCA ?_
    refine VO.moreA ?_
    refine VO.call0A (no_orc 18 (by decide)) (Steps_err x y false xl yl 20 he (by decide)) ?_
    refine VO.endA ?_
    (repeat (first | refine VC.seq ?_ | refine VC.block ?_ | refine VC.kill ?_ | refine VC.skip ?_ | refine VC.exit ?_ | refine VC.regA ?_ | refine VC.condT ?_ | refine VC.condF ?_))
    refine VC.regCA ?_
    refine VO.moreA ?_
    refine VO.call0A (no_orc 40 (by decide)) (Pour_err x y xl yl 20 he (by decide)) ?_
    refine VO.endA ?_
    (repeat (first | refine VC.seq ?_ | refine VC.block ?_ | refine VC.kill ?_ | refine VC.skip ?_ | refine VC.exit ?_ | refine VC.regA ?_ | refine VC.condT ?_ | refine VC.condF ?_))
    refine VC.regCA ?_
    refine VO.moreA ?_
    refine VO.call0A (no_orc 22 (by decide)) (w1) ?_
    refine VO.endA ?_
    (repeat (first | refine VC.seq ?_ | refine VC.block ?_ | refine VC.kill ?_ | refine VC.skip ?_ | refine VC.exit ?_ | refine VC.regA ?_ | refine VC.condT ?_ | refine VC.condF ?_))
    refine VC.regCA ?_
    refine VO.moreA ?_
    refine VO.call0A (no_orc 38 (by decide)) (Reached_err x y false xl yl 20 he (by decide)) ?_
    refine VO.endA ?_
    (repeat (first | refine VC.seq ?_ | refine VC.block ?_ | refine VC.kill ?_ | refine VC.skip ?_ | refine VC.exit ?_ | refine VC.regA ?_ | refine VC.condT ?_ | refine VC.condF ?_))
    refine VC.regCA ?_
    refine VO.moreA ?_
    refine VO.call0A (no_orc 39 (by decide)) (Farthest_err x y true xl yl 20 he (by decide)) ?_
    refine VO.endA ?_
    (repeat (first | refine VC.seq ?_ | refine VC.block ?_ | refine VC.kill ?_ | refine VC.skip ?_ | refine VC.exit ?_ | refine VC.regA ?_ | refine VC.condT ?_ | refine VC.condF ?_))
    refine VC.regCA ?_
    refine VO.moreA ?_
    refine VO.call0A (no_orc 37 (by decide)) (w2) ?_
    refine VO.endA ?_
    (repeat (first | refine VC.seq ?_ | refine VC.block ?_ | refine VC.kill ?_ | refine VC.skip ?_ | refine VC.exit ?_ | refine VC.regA ?_ | refine VC.condT ?_ | refine VC.condF ?_))
    refine VC.regCA ?_
    refine VO.moreA ?_
    refine VO.call0A (no_orc 22 (by decide)) (w3) ?_
    refine VO.endA ?_
    (repeat (first | refine VC.seq ?_ | refine VC.block ?_ | refine VC.kill ?_ | refine VC.skip ?_ | refine VC.exit ?_ | refine VC.regA ?_ | refine VC.condT ?_ | refine VC.condF ?_))
    refine VC.regCA ?_
    refine VO.moreA ?_
    refine VO.knownA (.bool true) rfl ?_
    refine VO.endA ?_
    (repeat (first | refine VC.seq ?_ | refine VC.block ?_ | refine VC.kill ?_ | refine VC.skip ?_ | refine VC.exit ?_ | refine VC.regA ?_ | refine VC.condT ?_ | refine VC.condF ?_))
    exact VC.ret (Fin.A rfl)
end Go.Ab.Jug

/- Ranges over functions. -/
namespace Go.Ab.V
section
variable {X : Ctx} {S S1 : VSt} {s : Slots} {h : AHeap} {ids : Pa → Option Nat} {F : Nat → Prop} {C : Cfg} {v v' : Value} {x y z : VV}
/-- The function hands an item on. -/
theorem VO.yield {Q : VSt → Prop} {d : Option Pa} {gd : Option (Pa × Bool)} {g : Opd} {args : List Opd} {r : List AOper} {k : Nat} {rest : List (List VV)} {st : Bool} {ys : List VV}
    (hw : wantV S gd = some true) (hg : evV S g = .yl k) (hH : S.H = some ⟨k, ys :: rest, true, st⟩) (hy : args.map (evV S) = ys) (hn : nmL ys = [])
    (hq : ∀ b, (st = true → b = true → rest ≠ []) → VO C r (VSt.put ⟨S.L, S.B, S.K, some ⟨k, rest, b, st⟩⟩ d (.p (.at (.bool b)))) Q) : VO C (⟨d, gd, .call g args⟩ :: r) S Q := by
  intro E s h ids F t
  obtain ⟨X, hE, t⟩ := t
  have rg := evV_sound t g
  rw [hg] at rg
  have hvf : evA s g = Value.func (.yield k) #[] #[] := by
    generalize evA s g = w at rg
    cases rg; rfl
  have ra := evV_list t args
  rw [hy] at ra
  obtain ⟨b, h', hst, hY, X', F', hE', t'⟩ := E.law hE t (t.hist.trans hH) ra hn
  refine WpO.yieldG (want_sound t hw) hvf ⟨_, h', hY, ?_⟩
  exact hq b hst E _ _ _ _ ⟨X', hE', t'.put (.p (.at rfl)) d⟩
/-- An iterator: called with a round's number, it hands on the items till it is stopped. -/
def VIter (C : Cfg) (f : Nat) (first cap : List VV) (st : Bool) (items : List (List VV)) : Prop :=
  ∀ (E : Env C) k h ids F vals, StE E ⟨.lf, .lf, [], some ⟨k, items, true, st⟩⟩ .lf h ids F → All2 (Vr (RdF h F) ids) vals (first ++ [.yl k] ++ cap) →
    WpF C f vals (fun _ h' => ∃ rest live ids' F', StE E ⟨.lf, .lf, [], some ⟨k, rest, live, st⟩⟩ .lf h' ids' F' ∧ (live = false ∨ rest = [] ∧ st = false)) h
theorem VIter.mk {f : Nat} {fn : AFunc} {first cap : List VV} {st : Bool} {items : List (List VV)} (hf : C.fn f = some fn) (hl : first.length + 1 + cap.length = fn.params.length) (hres : fn.results = [])
    (hc : ∀ k, VC C fn.body ⟨inV fn.params (first ++ [.yl k] ++ cap) .lf, .lf, [], some ⟨k, items, true, st⟩⟩ (fun e S => match e with
      | .exit _ => False
      | _ => S.K = [] ∧ ∃ rest live, S.H = some ⟨k, rest, live, st⟩ ∧ (live = false ∨ rest = [] ∧ st = false))) : VIter C f first cap st items := by
  intro E k h ids F vals t r
  obtain ⟨X, hE, t⟩ := t
  refine WpF.mk hf (r.1.trans (by simp; omega)) ?_
  have t0 : St X ⟨inV fn.params (first ++ [.yl k] ++ cap) .lf, .lf, [], some ⟨k, items, true, st⟩⟩ (putL fn.params vals fn.init fun s => s) h ids F :=
    ⟨t.wf, t.base, t.next, t.keep, t.frz, t.flt, t.blk, t.own, t.inj, inV_sound fn.params r (fun p x hx => by simp at hx), t.stab, t.hist⟩
  refine (hc k E _ _ _ _ ⟨X, hE, t0⟩).mono fun e s' h' ⟨S', i, f', q, Y, hY, t'⟩ => ?_
  have key : (S'.K = [] ∧ ∃ rest live, S'.H = some ⟨k, rest, live, st⟩ ∧ (live = false ∨ rest = [] ∧ st = false)) → ∃ rest live ids' F', StE E ⟨.lf, .lf, [], some ⟨k, rest, live, st⟩⟩ .lf h' ids' F' ∧ (live = false ∨ rest = [] ∧ st = false) := by
    rintro ⟨hK, rest, live, hH, hd⟩
    have t2 := t'.weak (S' := ⟨.lf, .lf, [], some ⟨k, rest, live, st⟩⟩) ⟨trivial, trivial, hK.symm, hH.symm⟩
    exact ⟨rest, live, i, f', ⟨Y, hY, t2.wf, t2.base, t2.next, t2.keep, t2.frz, t2.flt, t2.blk, t2.own, t2.inj, fun p x hx => by simp at hx, t2.stab, t2.hist⟩, hd⟩
  cases e with
  | exit id => exact q.elim
  | normal => simp only [hres, resOf]; exact key q
  | ret => simp only [hres, resOf]; exact key q
theorem _root_.Go.Ab.St.later (t : St X S s h ids F) {h' : AHeap} {F' : Nat → Prop} (hwf : WF h') (hb : h'.base = h.base) (hn : ∀ k, X.old k → k < h'.next) (hold : ∀ k, X.old k → ¬X.T k → h'.get k = h.get k)
    (hown : ∀ a b k, PT.get a S.B = some b → ids a = some k → h'.get k = h.get k ∧ ¬F' k) (hF : ∀ k, F k → F' k ∧ h'.get k = h.get k) (hfrz : ∀ k, X.old k → (F' k ↔ X.F k)) (hflt : ∀ k, F' k → k < h'.next) : St X S s h' ids F' :=
  ⟨hwf, hb.trans t.base, hn, fun k hk hT => (hold k hk hT).trans (t.keep k hk hT), hfrz, hflt, fun a b hb' => (t.blk a b hb').mono (fun _ _ r => RdF.mono hb hF r) (fun _ _ => rfl) (fun k hk => (hown a b k hb' hk).1),
    fun a b k hb' hk => ⟨(hown a b k hb' hk).2, (t.own a b k hb' hk).2⟩, t.inj, fun p x hx => (t.slots p x hx).mono (fun _ _ r => RdF.mono hb hF r) (fun _ _ => rfl), t.stab, t.hist⟩
theorem _root_.Go.Ab.St.since (t : St X S s h ids F) {h' : AHeap} (hwf : WF h') (hb : h'.base = h.base) (hn : h'.next = h.next)
    (hown : ∀ a b k, PT.get a S.B = some b → ids a = some k → h'.get k = h.get k) (hF : ∀ k, F k → h'.get k = h.get k) : St ⟨h', X.old, X.T, F, X.id0, X.H⟩ S s h' ids F :=
  ⟨hwf, rfl, fun k hk => by rw [hn]; exact t.next k hk, fun _ _ _ => rfl, fun _ _ => Iff.rfl, fun k hk => by rw [hn]; exact t.flt k hk, fun a b hb' => (t.blk a b hb').mono (fun _ _ r => RdF.mono hb (fun k hk => ⟨hk, hF k hk⟩) r) (fun _ _ => rfl) (fun k hk => hown a b k hb' hk),
    fun a b k hb' hk => t.own a b k hb' hk, t.inj, fun p x hx => (t.slots p x hx).mono (fun _ _ r => RdF.mono hb (fun k hk => ⟨hk, hF k hk⟩) r) (fun _ _ => rfl), t.stab, t.hist⟩
def asgV (C : Cfg) (body : ACode) (Q : Ex → VSt → Prop) : Ex → VSt → Prop
  | .normal, S => VC C body S Q
  | _, _ => False
/-- What a round comes to. -/
def roundQ {σ : Type} (T : σ → PT VB) (I : Nat → σ → Prop) (N : List Pa) (L : PT VV) (st : Bool) (m i : Nat) (Q : Ex → VSt → Prop) : Ex → VSt → Prop
  | .normal, S' => (st = true → i + 1 < m) ∧ ∃ y, I (i + 1) y ∧ G S' ⟨.lf, T y, N, none⟩
  | e, S' => ∃ B2, G S' ⟨.lf, B2, N, none⟩ ∧ Q e ⟨L, B2, [], none⟩
def stageQ {σ : Type} (T : σ → PT VB) (I : Nat → σ → Prop) (items : List (List VV)) (L : PT VV) (Q : Ex → VSt → Prop) (B : PT VB) (rest : List (List VV)) : Ex → Prop
  | .normal => ∃ i x, i ≤ items.length ∧ rest = items.drop i ∧ I i x ∧ B = T x
  | e => Q e ⟨L, B, [], none⟩
structure Kept {σ : Type} (C : Cfg) (X : Ctx) (L : PT VV) (s : Slots) (l : Nat) (st : Bool) (ps : List Pa) (asg body : ACode) (items : List (List VV)) (T : σ → PT VB) (I : Nat → σ → Prop) (Q : Ex → VSt → Prop) (Y : Ctx)
    (B : PT VB) (ids : Pa → Option Nat) (e : Ex) (rest : List (List VV)) : Prop where
  hH : Y.H = some ⟨l, rest, goesOn e, st⟩
  hT : ∀ k, ¬Y.T k
  t : St X ⟨L, B, [], none⟩ s Y.h0 ids Y.F
  hl : Y.h0.get l = some (.loop (stOf e) (pendOf e) s ps asg body)
  ol : Y.old l
  fl : ¬Y.F l
  xl : ¬X.old l
  old : ∀ k, X.old k → Y.old k
  frz : ∀ k, Y.F k → Y.old k
  own : ∀ a b k, PT.get a B = some b → ids a = some k → Y.old k ∧ k ≠ l
  stage : stageQ T I items L Q B rest e
theorem Kept.round {σ : Type} {L : PT VV} {l : Nat} {st : Bool} {ps : List Pa} {asg body : ACode} {items : List (List VV)} {T : σ → PT VB} {I : Nat → σ → Prop} {Q : Ex → VSt → Prop} {Y : Ctx} {B : PT VB} {idc ids2 : Pa → Option Nat} {N : List Pa}
    {args : List VV} {rest : List (List VV)} {Sc : VSt} {sc : Slots} {h2 : AHeap} {F2 : Nat → Prop} {vals : List Value}
    (kp : Kept C X L s l st ps asg body items T I Q Y B idc .normal (args :: rest)) (hN : ∀ p x, PT.get p L = some x → ∀ a ∈ nm x, a ∈ N)
    (hr : ∀ i x (hlt : i < items.length), I i x → VC C asg ⟨inV ps items[i] L, T x, N, none⟩ (asgV C body (roundQ T I N L st items.length i Q)))
    (hlen : ∀ x ∈ items, x.length = ps.length) (tc : St Y Sc sc h2 ids2 F2) (ra : All2 (Vr (RdF h2 F2) ids2) vals args) (hn : nmL args = []) :
    ∃ e h5, YieldE C l vals h2 (.bool (goesOn e)) h5 ∧ (st = true → goesOn e = true → rest ≠ []) ∧
      ∃ Y' F5 B' idc', Kept C X L s l st ps asg body items T I Q Y' B' idc' e rest ∧ St Y' ⟨Sc.L, Sc.B, Sc.K, some ⟨l, rest, goesOn e, st⟩⟩ sc h5 ids2 F5 := by
  obtain ⟨i, x, _, hrest, hI, hB⟩ := kp.stage
  have hlt : i < items.length := by
    rcases Nat.lt_or_ge i items.length with h | h
    · exact h
    · rw [List.drop_eq_nil_of_le h] at hrest; cases hrest
  rw [List.drop_eq_getElem_cons hlt] at hrest
  obtain ⟨hargs, hrest⟩ : args = items[i] ∧ rest = items.drop (i + 1) := by injection hrest with h1 h2; exact ⟨h1, h2⟩
  -- the keeper's state now
  have hY : ∀ k, Y.old k → h2.get k = Y.h0.get k := fun k hk => tc.keep k hk (kp.hT k)
  have hFY : ∀ k, Y.F k → F2 k ∧ h2.get k = Y.h0.get k := fun k hk => ⟨(tc.frz k (kp.frz k hk)).2 hk, hY k (kp.frz k hk)⟩
  have hown0 : ∀ a b k, PT.get a B = some b → idc a = some k → Y.old k ∧ k ≠ l ∧ ¬F2 k ∧ k < h2.next := fun a b k hb hk => by
    obtain ⟨o1, o2⟩ := kp.own a b k hb hk
    exact ⟨o1, o2, fun hF => (kp.t.own a b k hb hk).1 ((tc.frz k o1).1 hF), tc.next k o1⟩
  have fl2 : ¬F2 l := fun h => kp.fl ((tc.frz l kp.ol).1 h)
  have hb2 : h2.base = X.h0.base := by rw [tc.base]; exact kp.t.base
  let old : Nat → Prop := fun k => k < h2.next ∧ ¬∃ a b, a ∉ N ∧ PT.get a B = some b ∧ idc a = some k
  let Tk : Nat → Prop := fun k => ∃ a b, a ∈ N ∧ PT.get a B = some b ∧ idc a = some k
  let Xa : Ctx := ⟨h2, old, Tk, F2, idc, none⟩
  have rargs : All2 (Vr (RdF h2 F2) idc) vals args := ra.mono fun v y hy r => r.mono (fun _ _ r => r) fun a ha => by
    have := nm_mem ha hy; rw [hn] at this; simp at this
  have ta : St Xa ⟨inV ps items[i] L, T x, N, none⟩ (putL ps vals s fun s => s) h2 idc F2 := by
    rw [← hargs, ← hB]
    refine ⟨tc.wf, rfl, fun k hk => hk.1, fun _ _ _ => rfl, fun _ _ => Iff.rfl, tc.flt, fun a b hb => ?_, fun a b k hb hk => ⟨(hown0 a b k hb hk).2.2.1, ?_⟩, kp.t.inj, inV_sound ps rargs fun p y hy => ?_, fun _ _ => rfl, rfl⟩
    · exact (kp.t.blk a b hb).mono (fun _ _ r => RdF.mono tc.base hFY r) (fun _ _ => rfl) (fun k hk => hY k (kp.own a b k hb hk).1)
    · by_cases ha : a ∈ N
      · exact .inr ⟨⟨a, b, ha, hb, hk⟩, ha⟩
      · exact .inl fun ho => ho.2 ⟨a, b, ha, hb, hk⟩
    · exact (kp.t.slots p y hy).mono (fun _ _ r => RdF.mono tc.base hFY r) fun _ _ => rfl
  have oldl : old l := ⟨tc.next l kp.ol, fun ⟨a, b, _, hb, hk⟩ => (kp.own a b l hb hk).2 rfl⟩
  have nTl : ¬Tk l := fun ⟨a, b, _, hb, hk⟩ => (kp.own a b l hb hk).2 rfl
  -- the parameters
  obtain ⟨e1, s3, h3, c3, S3, i3, F3, q3, Xa', e3, t3⟩ := hr i x hlt hI (env0 C Xa rfl) _ _ _ _ ⟨Xa, rfl, ta⟩
  obtain rfl : Xa' = Xa := e3
  cases e1 with
  | exit id => exact q3.elim
  | ret => exact q3.elim
  | normal =>
  have g3 : h3.get l = some (.loop .ready none s ps asg body) := by rw [t3.keep l oldl nTl]; show h2.get l = _; rw [hY l kp.ol]; exact kp.hl
  have nF3 : ¬F3 l := fun h => fl2 ((t3.frz l oldl).1 h)
  have o3 : ∀ a b k, PT.get a S3.B = some b → i3 a = some k → k ≠ l := fun a b k hb hk e => by
    rcases (t3.own a b k hb hk).2 with h | h
    · exact h (by rw [e]; exact oldl)
    · exact nTl (by rw [← e]; exact h.1)
  have t3b := t3.since (h' := h3.put false l (.loop .busy none s ps asg body)) (t3.wf.put false g3) (AHeap.base_put false h3 l _) (AHeap.next_put false h3 l _)
    (fun a b k hb hk => by rw [AHeap.get_put, if_neg (o3 a b k hb hk)]) (fun k hk => by rw [AHeap.get_put, if_neg (fun e => nF3 (by rw [← e]; exact hk))])
  -- the round
  obtain ⟨e, s4, h4, c4, S4, i4, F4, q4, Xb, eb, t4⟩ := q3 (env0 C _ rfl) _ _ _ _ ⟨_, rfl, t3b⟩
  obtain rfl : Xb = _ := eb
  have hst : st = true → goesOn e = true → rest ≠ [] := by
    intro h1 h2 h3
    cases e with
    | normal =>
      have := q4.1 h1
      rw [hrest] at h3
      have := congrArg List.length h3
      simp at this; omega
    | ret => cases h2
    | exit id => cases h2
  obtain ⟨B2, gB, stg⟩ : ∃ B2, G S4 ⟨.lf, B2, N, none⟩ ∧ stageQ T I items L Q B2 rest e := by
    cases e with
    | normal => obtain ⟨_, y, h1, h2⟩ := q4; exact ⟨_, h2, i + 1, y, hlt, hrest, h1, rfl⟩
    | ret => exact q4
    | exit id => exact q4
  obtain ⟨i5, F5, t5⟩ := gB _ _ _ _ _ t4
  have g4 : h4.get l = some (.loop .busy none s ps asg body) := by
    rw [t5.keep l oldl nTl]
    show (h3.put false l _).get l = _
    rw [AHeap.get_put, if_pos rfl]
  have hY5 := YieldE.mk (C := C) (l := l) (args := vals) (h := h2) (by rw [hY l kp.ol]; exact kp.hl) (by rw [ra.1, hargs]; exact hlen _ (List.getElem_mem hlt)) c3 g3 c4 g4
  refine ⟨e, _, hY5, hst, ?_⟩
  generalize hh5 : h4.put false l (.loop (stOf e) (pendOf e) s ps asg body) = h5 at *
  have wf5 : WF h5 := by rw [← hh5]; exact t5.wf.put false g4
  have b5 : h5.base = h2.base := by rw [← hh5, AHeap.base_put, t5.base, AHeap.base_put, t3.base]
  have n5 : h5.next = h4.next := by rw [← hh5, AHeap.next_put]
  have l5 : h5.get l = some (.loop (stOf e) (pendOf e) s ps asg body) := by rw [← hh5, AHeap.get_put, if_pos rfl]
  have ne5 : ∀ k, k ≠ l → h5.get k = h4.get k := fun k hk => by rw [← hh5, AHeap.get_put, if_neg hk]
  have keepA : ∀ k, old k → ¬Tk k → k ≠ l → h5.get k = h2.get k := fun k h1 h2' h3' => by
    rw [ne5 k h3', t5.keep k h1 h2']
    show (h3.put false l _).get k = _
    rw [AHeap.get_put, if_neg h3', t3.keep k h1 h2']
  have frzA : ∀ k, old k → (F5 k ↔ F2 k) := fun k hk => (t5.frz k hk).trans (t3.frz k hk)
  have ofown : ∀ k, (∃ a b, PT.get a B = some b ∧ idc a = some k) ∨ ¬∃ a b, PT.get a B = some b ∧ idc a = some k := fun k => Classical.em _
  have cal : ∀ a b k, PT.get a Sc.B = some b → ids2 a = some k → old k ∧ ¬Tk k ∧ k ≠ l ∧ ¬Y.old k ∧ ¬F2 k ∧ k < h2.next := fun a b k hb hk => by
    obtain ⟨o1, o2⟩ := tc.own a b k hb hk
    have o3 : ¬Y.old k := o2.elim id fun h => (kp.hT k h.1).elim
    have o4 := tc.lt hb hk
    exact ⟨⟨o4, fun ⟨a', b', _, h1, h2⟩ => o3 (kp.own a' b' k h1 h2).1⟩, fun ⟨a', b', _, h1, h2⟩ => o3 (kp.own a' b' k h1 h2).1, fun e => o3 (by rw [e]; exact kp.ol), o3, o1, o4⟩
  have fA : ∀ k, F2 k → old k ∧ ¬Tk k ∧ k ≠ l := fun k hk => by
    have hno : ∀ a b, PT.get a B = some b → idc a = some k → False := fun a b hb hk' => (hown0 a b k hb hk').2.2.1 hk
    exact ⟨⟨tc.flt k hk, fun ⟨a, b, _, h1, h2⟩ => hno a b h1 h2⟩, fun ⟨a, b, _, h1, h2⟩ => hno a b h1 h2, fun e => fl2 (by rw [← e]; exact hk)⟩
  have fB : ∀ k, F2 k → F5 k ∧ h5.get k = h2.get k := fun k hk => by
    obtain ⟨h1, h2', h3'⟩ := fA k hk
    exact ⟨(frzA k h1).2 hk, keepA k h1 h2' h3'⟩
  have xo : ∀ k, X.old k → old k ∧ ¬Tk k ∧ k ≠ l := fun k hk => by
    have hno : ∀ a b, PT.get a B = some b → idc a = some k → False := fun a b hb hk' => (kp.t.own a b k hb hk').2.elim (fun h => h hk) fun h => by simp at h
    exact ⟨⟨tc.next k (kp.old k hk), fun ⟨a, b, _, h1, h2⟩ => hno a b h1 h2⟩, fun ⟨a, b, _, h1, h2⟩ => hno a b h1 h2, fun e => kp.xl (by rw [← e]; exact hk)⟩
  have fl5 : ¬F5 l := fun h => fl2 ((frzA l oldl).1 h)
  have ow5 : ∀ a b k, PT.get a B2 = some b → i5 a = some k → ¬F5 k ∧ k ≠ l ∧ ¬X.old k ∧ (Y.old k ∨ F2 k ∨ h2.next ≤ k) ∧ k < h5.next := fun a b k hb hk => by
    obtain ⟨o1, o2⟩ := t5.own a b k hb hk
    have hlt5 : k < h5.next := by rw [n5]; exact t5.lt hb hk
    rcases o2 with o2 | ⟨⟨a', b', h1, h2', h3'⟩, _⟩
    · refine ⟨o1, fun e => o2 (by rw [e]; exact oldl), fun hx => o2 (xo k hx).1, ?_, hlt5⟩
      by_cases hk2 : k < h2.next
      · have : ∃ a b, a ∉ N ∧ PT.get a B = some b ∧ idc a = some k := Classical.byContradiction fun hno => o2 ⟨hk2, hno⟩
        obtain ⟨a', b', _, h1, h2'⟩ := this
        exact .inl (kp.own a' b' k h1 h2').1
      · exact .inr (.inr (by omega))
    · exact ⟨o1, (kp.own a' b' k h2' h3').2, fun hx => (xo k hx).2.1 ⟨a', b', h1, h2', h3'⟩, .inl (kp.own a' b' k h2' h3').1, hlt5⟩
  have b54 : h5.base = h4.base := by rw [← hh5, AHeap.base_put]
  refine ⟨⟨h5, fun k => (Y.old k ∨ F2 k ∨ h2.next ≤ k) ∧ k < h5.next, fun _ => False, F5, Y.id0, some ⟨l, rest, goesOn e, st⟩⟩, F5, B2, i5, ⟨rfl, fun _ h => h, ?_, l5, ?_, fl5, kp.xl, fun k hk => ⟨.inl (kp.old k hk), ?_⟩, fun k hk => ?_, fun a b k hb hk => ?_, stg⟩, ?_⟩
  · refine ⟨wf5, b5.trans hb2, fun k hk => by rw [n5]; exact t5.next k (xo k hk).1, fun k hk _ => ?_, fun k hk => ?_, fun k hk => by rw [n5]; exact t5.flt k hk, fun a b hb => ?_, fun a b k hb hk => ?_, t5.inj, fun p y hy => ?_, fun a ha => by simp at ha, kp.t.hist⟩
    · obtain ⟨h1, h2', h3'⟩ := xo k hk
      rw [keepA k h1 h2' h3', hY k (kp.old k hk)]
      exact kp.t.keep k hk (by assumption)
    · exact (frzA k (xo k hk).1).trans ((tc.frz k (kp.old k hk)).trans (kp.t.frz k hk))
    · exact (t5.blk a b hb).mono (fun _ _ r => RdF.mono b54 (fun k hk => ⟨hk, ne5 k fun e => fl5 (by rw [← e]; exact hk)⟩) r) (fun _ _ => rfl) (fun k hk => ne5 k (ow5 a b k hb hk).2.1)
    · exact ⟨(ow5 a b k hb hk).1, .inl (ow5 a b k hb hk).2.2.1⟩
    · refine (kp.t.slots p y hy).mono (fun _ _ r => RdF.mono (b5.trans tc.base) (fun k hk => ?_) r) fun a ha => t5.stab a (hN p y hy a ha)
      obtain ⟨h1, h2'⟩ := hFY k hk
      obtain ⟨h3', h4'⟩ := fB k h1
      exact ⟨h3', h4'.trans h2'⟩
  · exact ⟨.inl kp.ol, by rw [n5]; exact t5.next l oldl⟩
  · rw [n5]; exact t5.next k (xo k hk).1
  · have hk5 : k < h5.next := by rw [n5]; exact t5.flt k hk
    refine ⟨?_, hk5⟩
    by_cases hk2 : k < h2.next
    · by_cases ho : old k
      · exact .inr (.inl ((frzA k ho).1 hk))
      · have : ∃ a b, a ∉ N ∧ PT.get a B = some b ∧ idc a = some k := Classical.byContradiction fun hno => ho ⟨hk2, hno⟩
        obtain ⟨a', b', _, h1, h2'⟩ := this
        exact .inl (kp.own a' b' k h1 h2').1
    · exact .inr (.inr (by omega))
  · exact ⟨(ow5 a b k hb hk).2.2.2, (ow5 a b k hb hk).2.1⟩
  · refine ⟨wf5, rfl, fun k hk => hk.2, fun _ _ _ => rfl, fun _ _ => Iff.rfl, fun k hk => by rw [n5]; exact t5.flt k hk, fun a b hb => ?_, fun a b k hb hk => ?_, tc.inj, fun p y hy => ?_, tc.stab, rfl⟩
    · exact (tc.blk a b hb).mono (fun _ _ r => RdF.mono b5 fB r) (fun _ _ => rfl) (fun k hk => by obtain ⟨h1, h2', h3', _⟩ := cal a b k hb hk; exact keepA k h1 h2' h3')
    · obtain ⟨h1, h2', h3', h4', h5', h6⟩ := cal a b k hb hk
      exact ⟨fun h => h5' ((frzA k h1).1 h), .inl fun ho => ho.1.elim h4' fun h => h.elim h5' fun h => by omega⟩
    · exact (tc.slots p y hy).mono (fun _ _ r => RdF.mono b5 fB r) fun _ _ => rfl
/-- A range over a function, by the contract of the iterator. L: the slots, T: the blocks ahead of a round, N: the names that the slots bear. -/
theorem VC.rangeF {Q : Ex → VSt → Prop} {g : Opd} {ps : List Pa} {asg body : ACode} {f : Nat} {first cap : List VV} {st : Bool} {items : List (List VV)} {σ : Type} (T : σ → PT VB) (I : Nat → σ → Prop) {x0 : σ} (N : List Pa)
    (hK : S.K = []) (hH : S.H = none) (hg : evV S g = .clos f first cap) (ho : ∀ l, C.orc f l = none) (hit : VIter C f first cap st items) (hN : ∀ p x, PT.get p S.L = some x → ∀ a ∈ nm x, a ∈ N) (hB : PT.Le (T x0) S.B) (hi : I 0 x0)
    (hlen : ∀ x ∈ items, x.length = ps.length)
    (hr : ∀ i x (hlt : i < items.length), I i x → VC C asg ⟨inV ps items[i] S.L, T x, N, none⟩ (asgV C body (roundQ T I N S.L st items.length i Q)))
    (hq : st = false → ∀ x, I items.length x → Q .normal ⟨S.L, T x, [], none⟩) : VC C (.rangeF g ps asg body) S Q := by
  intro E s h ids F t
  obtain ⟨X, hE, t⟩ := t
  have rg := evV_sound t g
  rw [hg] at rg
  obtain ⟨vf, vc, hvf, rf, rc⟩ : ∃ vf vc : List Value, evA s g = .func (.func f) vf.toArray vc.toArray ∧ All2 (Vr (RdF h F) ids) vf first ∧ All2 (Vr (RdF h F) ids) vc cap := by
    generalize evA s g = w at rg
    cases rg with
    | clos f h1 h2 h3 h4 => exact ⟨_, _, rfl, ⟨h1, h2⟩, ⟨h3, h4⟩⟩
  have hnx : (h.addL s ps asg body).next = h.next + 1 := AHeap.next_add false h _
  have hold : ∀ k, k < h.next → (h.addL s ps asg body).get k = h.get k := fun k hk => by show (h.add false _).get k = _; rw [AHeap.get_add, if_neg (by omega)]
  have hbs : (h.addL s ps asg body).base = h.base := AHeap.base_add false h _
  have hwf : WF (h.addL s ps asg body) := t.wf.add false _
  generalize hh1 : h.addL s ps asg body = h1 at *
  have hl1 : h1.get h.next = some (.loop .ready none s ps asg body) := by rw [← hh1]; show (h.add false _).get _ = _; rw [AHeap.get_add, if_pos rfl]
  have hF1 : ∀ k, F k → F k ∧ h1.get k = h.get k := fun k hk => ⟨hk, hold k (t.flt k hk)⟩
  let Y0 : Ctx := ⟨h1, fun k => k < h1.next, fun _ => False, F, ids, some ⟨h.next, items, true, st⟩⟩
  have t1 : St X ⟨S.L, T x0, [], none⟩ s h1 ids F := (t.weak (S' := ⟨S.L, T x0, [], none⟩) ⟨PT.Le.refl _, hB, hK.symm, hH.symm⟩).later hwf hbs (fun k hk => by have := t.next k hk; omega) (fun k hk _ => hold k (t.next k hk))
    (fun a b k hb hk => ⟨hold k (t.lt (hB.get hb) hk), (t.own a b k (hB.get hb) hk).1⟩) hF1 t.frz (fun k hk => by have := t.flt k hk; omega)
  have k0 : Kept C X S.L s h.next st ps asg body items T I Q Y0 (T x0) ids .normal items :=
    ⟨rfl, fun _ h => h, t1, hl1, by show h.next < h1.next; omega, fun hF => by have := t.flt _ hF; omega, fun hX => by have := t.next _ hX; omega, fun k hk => by show k < h1.next; have := t.next k hk; omega,
      fun k hk => by show k < h1.next; have := t.flt k hk; omega, fun a b k hb hk => by have := t.lt (hB.get hb) hk; exact ⟨by show k < h1.next; omega, by omega⟩, 0, x0, Nat.zero_le _, rfl, hi, rfl⟩
  let E1 : Env C := ⟨fun Y => ∃ B idc e rest, Kept C X S.L s h.next st ps asg body items T I Q Y B idc e rest, by
    intro Y Sc sc h2 ids2 F2 k rest st' vals args ⟨B, idc, e, rest0, kp⟩ tc hYH ra hn
    have he := kp.hH.symm.trans hYH
    simp only [Option.some.injEq, Hi.mk.injEq] at he
    obtain ⟨rfl, rfl, he, rfl⟩ := he
    have he : e = .normal := by cases e <;> first | rfl | cases he
    subst he
    obtain ⟨e, h5, h1', h2', Y', F5, B', idc', kp', t'⟩ := kp.round hN hr hlen tc ra hn
    exact ⟨goesOn e, h5, h2', h1', Y', F5, ⟨B', idc', e, rest, kp'⟩, t'⟩⟩
  have tc0 : StE E1 ⟨.lf, .lf, [], some ⟨h.next, items, true, st⟩⟩ .lf h1 ids F :=
    ⟨Y0, ⟨_, _, _, _, k0⟩, hwf, rfl, fun _ hk => hk, fun _ _ _ => rfl, fun _ _ => Iff.rfl, fun k hk => by have := t.flt k hk; omega, fun a b hb => by simp at hb, fun a b k hb => by simp at hb, fun a a' b b' k hb => by simp at hb, fun p x hx => by simp at hx, fun _ _ => rfl, rfl⟩
  have hmono : ∀ {vs xs}, All2 (Vr (RdF h F) ids) vs xs → All2 (Vr (RdF h1 F) ids) vs xs := fun r => r.mono fun v y _ r => r.mono (fun _ _ r => RdF.mono hbs hF1 r) fun _ _ => rfl
  have rall : All2 (Vr (RdF h1 F) ids) (vf ++ [Value.func (.yield h.next) #[] #[]] ++ vc) (first ++ [.yl h.next] ++ cap) := ((hmono rf).append (.cons (.yl _) .nil)).append (hmono rc)
  obtain ⟨v, h', hcall, rest, live, i', F', ⟨Y, ⟨B, idc, e, rest', kp⟩, tc⟩, hdone⟩ := hit E1 _ _ _ _ _ tc0 rall
  have he := kp.hH.symm.trans tc.hist
  simp only [Option.some.injEq, Hi.mk.injEq, true_and, and_true] at he
  obtain ⟨rfl, rfl⟩ := he
  have hl' : h'.get h.next = some (.loop (stOf e) (pendOf e) s ps asg body) := by rw [tc.keep _ kp.ol (kp.hT _)]; exact kp.hl
  have hce : CodeE C (.rangeF g ps asg body) s h e s (h'.put false h.next (.loop .exhausted (pendOf e) s ps asg body)) :=
    CodeE.rangeF hvf (ho _) (by rw [hh1]; simpa using hcall) hl'
  have hqe : Q e ⟨S.L, B, [], none⟩ := by
    have hs := kp.stage
    cases e with
    | normal =>
      obtain ⟨i, x, h0, h1, h2, rfl⟩ := hs
      rcases hdone with h3 | ⟨h3, h4⟩
      · cases h3
      · subst h3
        have : i = items.length := by
          have := congrArg List.length h1
          simp at this; omega
        subst this
        exact hq h4 x h2
    | ret => exact hs
    | exit id => exact hs
  refine ⟨e, s, _, hce, _, idc, Y.F, hqe, X, hE, ?_⟩
  have hY : ∀ k, Y.old k → k ≠ h.next → (h'.put false h.next (.loop .exhausted (pendOf e) s ps asg body)).get k = Y.h0.get k := fun k hk hne => by rw [AHeap.get_put, if_neg hne]; exact tc.keep k hk (kp.hT k)
  exact kp.t.later (tc.wf.put false hl') ((AHeap.base_put false h' _ _).trans tc.base) (fun k hk => by rw [AHeap.next_put]; exact tc.next k (kp.old k hk)) (fun k hk _ => hY k (kp.old k hk) fun e => kp.xl (by rw [← e]; exact hk))
    (fun a b k hb hk => ⟨hY k (kp.own a b k hb hk).1 (kp.own a b k hb hk).2, (kp.t.own a b k hb hk).1⟩) (fun k hk => ⟨hk, hY k (kp.frz k hk) fun e => kp.fl (by rw [← e]; exact hk)⟩) kp.t.frz (fun k hk => by rw [AHeap.next_put]; exact tc.next k (kp.frz k hk))
end
end Go.Ab.V

/- Ranges over functions: what the tactics do of themselves. -/
namespace Go.Ab.V
section
variable {S S' : VSt} {C : Cfg}
/-- The names that slots bear. -/
def NmOk (N : List Pa) : PT VV → Prop
  | .lf => True
  | .nd none l r => NmOk N l ∧ NmOk N r
  | .nd (some x) l r => (∀ a ∈ nm x, a ∈ N) ∧ NmOk N l ∧ NmOk N r
theorem NmOk.get {N : List Pa} : ∀ {t : PT VV} {p : Pa} {x : VV}, NmOk N t → PT.get p t = some x → ∀ a ∈ nm x, a ∈ N
  | .lf, p, x, _, h => by cases p <;> simp [PT.get] at h
  | .nd v l r, p, x, hk, h => by
    have hl : NmOk N l := by cases v with
      | none => exact hk.1
      | some _ => exact hk.2.1
    have hr : NmOk N r := by cases v with
      | none => exact hk.2
      | some _ => exact hk.2.2
    cases p with
    | z =>
      have h : v = some x := h
      subst h; exact hk.1
    | l p => exact NmOk.get (t := l) hl h
    | r p => exact NmOk.get (t := r) hr h
theorem VO.yieldA {Q : VSt → Prop} {d : Option Pa} {gd : Option (Pa × Bool)} {g : Opd} {args : List Opd} {r : List AOper} {k : Nat} {rest : List (List VV)} {st : Bool} {ys : List VV}
    (hq : ∀ b, (st = true → b = true → rest ≠ []) → VO C r (VSt.put ⟨S.L, S.B, S.K, some ⟨k, rest, b, st⟩⟩ d (.p (.at (.bool b)))) Q) (hH : S.H = some ⟨k, ys :: rest, true, st⟩ := by rfl)
    (hg : evV S g = .yl k := by simp (disch := omega) only [vev_call, putC_c0, putC_n0, putC_cs, ble0, List.getElem?_cons_zero, List.getElem?_cons_succ, runU, isCall, wantV, vev, evV, ofVal, ofAtom, atomB, cond_true, cond_false, PT.get, PT.set, PT.filt, PT.map, Option.getD_some, Option.getD_none, ret1V, ret1X, v_ld, v_ias, v_iad, v_fad, v_slsl, v_slarr, v_st, v_app, v_cpy, v_len, v_look, v_mset, elsV, partV, newV, free, atV, atI, atL, toVal, cellsV, okV, VSt.put, VSt.kill, VSt.alloc, VSt.frz, VSt.adopt, noref, norefB, deadB, deadV, nos, nm, nmL, nmB, nmE, Pa.eqb, Bool.not_false, Bool.not_true, Bool.and_true, Bool.true_and, Bool.false_and, Bool.and_false, bin, intOps, intBin, cvt, un, goInt, bndsV, bndV, Option.map_some, Option.map_none, List.map_cons, List.map_nil, Int.toNat_natCast, Nat.mul_one, Nat.zero_add, beq_true, beq_false, beq_self_eq_true, List.length_map, List.length_cons, List.length_nil, List.length_append, fillV, pEvV, repsV, List.append_nil, List.nil_append, if_pos, if_neg, reduceIte, List.getElem?_map, List.getElem?_drop, Nat.add_zero, List.getElem?_eq_getElem, Go.IntWalk.i64_in, wrap_u64, tmod_pos, eq_self, true_and, and_true, and_self, List.all_cons, List.all_nil, nmL_vi, flV_len, flP_len, flV_nm, flV_ok, flV_pv, flP_map, drop_flP, drop_flV, putC_flV, eqV2, eqV3, bneT, bneF, decide_true, decide_false, frzL_vi, frzL_flV, eqV_slice, eqV_ptr, eqV_func, nilS, nilP, nilF, nmL_append, okL_vi, toPVs_vi, toPVs, toPV, frzV, frzL, frzB, resVV, vi, vb, nilV, sl1, bl1, pi, foldV, max2, min2, max_eq, min_eq, Int.tdiv_eq_ediv_of_nonneg, Int.cast_ofNat_Int, Option.isSome_none, Option.isSome_some, Option.isNone_none, Option.isNone_some, and_false, false_and, sl2, sl1P, slP, min_cast, take_map_pi, map_pi, Nat.sub_zero, Nat.zero_mul, List.length_take, decide_eq_true, decide_eq_false, Bool.true_eq_false, Bool.false_eq_true, beqT, beqF, ibeq, ibne, List.take_zero, List.take_succ_cons, List.drop_zero, List.drop_succ_cons, List.drop_nil, List.take_nil, List.cons_append, Bool.not_true, Bool.not_false]) (hy : args.map (evV S) = ys := by simp (disch := omega) only [vev_call, putC_c0, putC_n0, putC_cs, ble0, List.getElem?_cons_zero, List.getElem?_cons_succ, runU, isCall, wantV, vev, evV, ofVal, ofAtom, atomB, cond_true, cond_false, PT.get, PT.set, PT.filt, PT.map, Option.getD_some, Option.getD_none, ret1V, ret1X, v_ld, v_ias, v_iad, v_fad, v_slsl, v_slarr, v_st, v_app, v_cpy, v_len, v_look, v_mset, elsV, partV, newV, free, atV, atI, atL, toVal, cellsV, okV, VSt.put, VSt.kill, VSt.alloc, VSt.frz, VSt.adopt, noref, norefB, deadB, deadV, nos, nm, nmL, nmB, nmE, Pa.eqb, Bool.not_false, Bool.not_true, Bool.and_true, Bool.true_and, Bool.false_and, Bool.and_false, bin, intOps, intBin, cvt, un, goInt, bndsV, bndV, Option.map_some, Option.map_none, List.map_cons, List.map_nil, Int.toNat_natCast, Nat.mul_one, Nat.zero_add, beq_true, beq_false, beq_self_eq_true, List.length_map, List.length_cons, List.length_nil, List.length_append, fillV, pEvV, repsV, List.append_nil, List.nil_append, if_pos, if_neg, reduceIte, List.getElem?_map, List.getElem?_drop, Nat.add_zero, List.getElem?_eq_getElem, Go.IntWalk.i64_in, wrap_u64, tmod_pos, eq_self, true_and, and_true, and_self, List.all_cons, List.all_nil, nmL_vi, flV_len, flP_len, flV_nm, flV_ok, flV_pv, flP_map, drop_flP, drop_flV, putC_flV, eqV2, eqV3, bneT, bneF, decide_true, decide_false, frzL_vi, frzL_flV, eqV_slice, eqV_ptr, eqV_func, nilS, nilP, nilF, nmL_append, okL_vi, toPVs_vi, toPVs, toPV, frzV, frzL, frzB, resVV, vi, vb, nilV, sl1, bl1, pi, foldV, max2, min2, max_eq, min_eq, Int.tdiv_eq_ediv_of_nonneg, Int.cast_ofNat_Int, Option.isSome_none, Option.isSome_some, Option.isNone_none, Option.isNone_some, and_false, false_and, sl2, sl1P, slP, min_cast, take_map_pi, map_pi, Nat.sub_zero, Nat.zero_mul, List.length_take, decide_eq_true, decide_eq_false, Bool.true_eq_false, Bool.false_eq_true, beqT, beqF, ibeq, ibne, List.take_zero, List.take_succ_cons, List.drop_zero, List.drop_succ_cons, List.drop_nil, List.take_nil, List.cons_append, Bool.not_true, Bool.not_false]) (hn : nmL ys = [] := by simp (disch := omega) only [vev_call, putC_c0, putC_n0, putC_cs, ble0, List.getElem?_cons_zero, List.getElem?_cons_succ, runU, isCall, wantV, vev, evV, ofVal, ofAtom, atomB, cond_true, cond_false, PT.get, PT.set, PT.filt, PT.map, Option.getD_some, Option.getD_none, ret1V, ret1X, v_ld, v_ias, v_iad, v_fad, v_slsl, v_slarr, v_st, v_app, v_cpy, v_len, v_look, v_mset, elsV, partV, newV, free, atV, atI, atL, toVal, cellsV, okV, VSt.put, VSt.kill, VSt.alloc, VSt.frz, VSt.adopt, noref, norefB, deadB, deadV, nos, nm, nmL, nmB, nmE, Pa.eqb, Bool.not_false, Bool.not_true, Bool.and_true, Bool.true_and, Bool.false_and, Bool.and_false, bin, intOps, intBin, cvt, un, goInt, bndsV, bndV, Option.map_some, Option.map_none, List.map_cons, List.map_nil, Int.toNat_natCast, Nat.mul_one, Nat.zero_add, beq_true, beq_false, beq_self_eq_true, List.length_map, List.length_cons, List.length_nil, List.length_append, fillV, pEvV, repsV, List.append_nil, List.nil_append, if_pos, if_neg, reduceIte, List.getElem?_map, List.getElem?_drop, Nat.add_zero, List.getElem?_eq_getElem, Go.IntWalk.i64_in, wrap_u64, tmod_pos, eq_self, true_and, and_true, and_self, List.all_cons, List.all_nil, nmL_vi, flV_len, flP_len, flV_nm, flV_ok, flV_pv, flP_map, drop_flP, drop_flV, putC_flV, eqV2, eqV3, bneT, bneF, decide_true, decide_false, frzL_vi, frzL_flV, eqV_slice, eqV_ptr, eqV_func, nilS, nilP, nilF, nmL_append, okL_vi, toPVs_vi, toPVs, toPV, frzV, frzL, frzB, resVV, vi, vb, nilV, sl1, bl1, pi, foldV, max2, min2, max_eq, min_eq, Int.tdiv_eq_ediv_of_nonneg, Int.cast_ofNat_Int, Option.isSome_none, Option.isSome_some, Option.isNone_none, Option.isNone_some, and_false, false_and, sl2, sl1P, slP, min_cast, take_map_pi, map_pi, Nat.sub_zero, Nat.zero_mul, List.length_take, decide_eq_true, decide_eq_false, Bool.true_eq_false, Bool.false_eq_true, beqT, beqF, ibeq, ibne, List.take_zero, List.take_succ_cons, List.drop_zero, List.drop_succ_cons, List.drop_nil, List.take_nil, List.cons_append, Bool.not_true, Bool.not_false]) (hw : wantV S gd = some true := by simp (disch := omega) only [vev_call, putC_c0, putC_n0, putC_cs, ble0, List.getElem?_cons_zero, List.getElem?_cons_succ, runU, isCall, wantV, vev, evV, ofVal, ofAtom, atomB, cond_true, cond_false, PT.get, PT.set, PT.filt, PT.map, Option.getD_some, Option.getD_none, ret1V, ret1X, v_ld, v_ias, v_iad, v_fad, v_slsl, v_slarr, v_st, v_app, v_cpy, v_len, v_look, v_mset, elsV, partV, newV, free, atV, atI, atL, toVal, cellsV, okV, VSt.put, VSt.kill, VSt.alloc, VSt.frz, VSt.adopt, noref, norefB, deadB, deadV, nos, nm, nmL, nmB, nmE, Pa.eqb, Bool.not_false, Bool.not_true, Bool.and_true, Bool.true_and, Bool.false_and, Bool.and_false, bin, intOps, intBin, cvt, un, goInt, bndsV, bndV, Option.map_some, Option.map_none, List.map_cons, List.map_nil, Int.toNat_natCast, Nat.mul_one, Nat.zero_add, beq_true, beq_false, beq_self_eq_true, List.length_map, List.length_cons, List.length_nil, List.length_append, fillV, pEvV, repsV, List.append_nil, List.nil_append, if_pos, if_neg, reduceIte, List.getElem?_map, List.getElem?_drop, Nat.add_zero, List.getElem?_eq_getElem, Go.IntWalk.i64_in, wrap_u64, tmod_pos, eq_self, true_and, and_true, and_self, List.all_cons, List.all_nil, nmL_vi, flV_len, flP_len, flV_nm, flV_ok, flV_pv, flP_map, drop_flP, drop_flV, putC_flV, eqV2, eqV3, bneT, bneF, decide_true, decide_false, frzL_vi, frzL_flV, eqV_slice, eqV_ptr, eqV_func, nilS, nilP, nilF, nmL_append, okL_vi, toPVs_vi, toPVs, toPV, frzV, frzL, frzB, resVV, vi, vb, nilV, sl1, bl1, pi, foldV, max2, min2, max_eq, min_eq, Int.tdiv_eq_ediv_of_nonneg, Int.cast_ofNat_Int, Option.isSome_none, Option.isSome_some, Option.isNone_none, Option.isNone_some, and_false, false_and, sl2, sl1P, slP, min_cast, take_map_pi, map_pi, Nat.sub_zero, Nat.zero_mul, List.length_take, decide_eq_true, decide_eq_false, Bool.true_eq_false, Bool.false_eq_true, beqT, beqF, ibeq, ibne, List.take_zero, List.take_succ_cons, List.drop_zero, List.drop_succ_cons, List.drop_nil, List.take_nil, List.cons_append, Bool.not_true, Bool.not_false]) : VO C (⟨d, gd, .call g args⟩ :: r) S Q := VO.yield hw hg hH hy hn hq
theorem VC.rangeFA {Q : Ex → VSt → Prop} {g : Opd} {ps : List Pa} {asg body : ACode} {f : Nat} {first cap : List VV} {st : Bool} {items : List (List VV)} {σ : Type} (T : σ → PT VB) (I : Nat → σ → Prop) {x0 : σ} (N : List Pa)
    (ho : ∀ l, C.orc f l = none) (hit : VIter C f first cap st items) (hN : NmOk N S.L) (hB : PT.Le (T x0) S.B) (hi : I 0 x0)
    (hlen : ∀ x ∈ items, x.length = ps.length)
    (hr : ∀ i x (hlt : i < items.length), I i x → VC C asg ⟨inV ps items[i] S.L, T x, N, none⟩ (asgV C body (roundQ T I N S.L st items.length i Q)))
    (hq : st = false → ∀ x, I items.length x → Q .normal ⟨S.L, T x, [], none⟩) (hK : S.K = [] := by rfl) (hH : S.H = none := by rfl) (hg : evV S g = .clos f first cap := by simp (disch := omega) only [vev_call, putC_c0, putC_n0, putC_cs, ble0, List.getElem?_cons_zero, List.getElem?_cons_succ, runU, isCall, wantV, vev, evV, ofVal, ofAtom, atomB, cond_true, cond_false, PT.get, PT.set, PT.filt, PT.map, Option.getD_some, Option.getD_none, ret1V, ret1X, v_ld, v_ias, v_iad, v_fad, v_slsl, v_slarr, v_st, v_app, v_cpy, v_len, v_look, v_mset, elsV, partV, newV, free, atV, atI, atL, toVal, cellsV, okV, VSt.put, VSt.kill, VSt.alloc, VSt.frz, VSt.adopt, noref, norefB, deadB, deadV, nos, nm, nmL, nmB, nmE, Pa.eqb, Bool.not_false, Bool.not_true, Bool.and_true, Bool.true_and, Bool.false_and, Bool.and_false, bin, intOps, intBin, cvt, un, goInt, bndsV, bndV, Option.map_some, Option.map_none, List.map_cons, List.map_nil, Int.toNat_natCast, Nat.mul_one, Nat.zero_add, beq_true, beq_false, beq_self_eq_true, List.length_map, List.length_cons, List.length_nil, List.length_append, fillV, pEvV, repsV, List.append_nil, List.nil_append, if_pos, if_neg, reduceIte, List.getElem?_map, List.getElem?_drop, Nat.add_zero, List.getElem?_eq_getElem, Go.IntWalk.i64_in, wrap_u64, tmod_pos, eq_self, true_and, and_true, and_self, List.all_cons, List.all_nil, nmL_vi, flV_len, flP_len, flV_nm, flV_ok, flV_pv, flP_map, drop_flP, drop_flV, putC_flV, eqV2, eqV3, bneT, bneF, decide_true, decide_false, frzL_vi, frzL_flV, eqV_slice, eqV_ptr, eqV_func, nilS, nilP, nilF, nmL_append, okL_vi, toPVs_vi, toPVs, toPV, frzV, frzL, frzB, resVV, vi, vb, nilV, sl1, bl1, pi, foldV, max2, min2, max_eq, min_eq, Int.tdiv_eq_ediv_of_nonneg, Int.cast_ofNat_Int, Option.isSome_none, Option.isSome_some, Option.isNone_none, Option.isNone_some, and_false, false_and, sl2, sl1P, slP, min_cast, take_map_pi, map_pi, Nat.sub_zero, Nat.zero_mul, List.length_take, decide_eq_true, decide_eq_false, Bool.true_eq_false, Bool.false_eq_true, beqT, beqF, ibeq, ibne, List.take_zero, List.take_succ_cons, List.drop_zero, List.drop_succ_cons, List.drop_nil, List.take_nil, List.cons_append, Bool.not_true, Bool.not_false]) : VC C (.rangeF g ps asg body) S Q :=
  VC.rangeF T I N hK hH hg ho hit (fun _ _ hp => hN.get hp) hB hi hlen hr hq
end
end Go.Ab.V

namespace Go.Ab.Jug
open Go.Ab.V
set_option maxRecDepth 100000
def jugQ (n : Nat) (q0 q1 q2 q3 : Int) (c : Bool) : List PV := [pi n, pi q0, pi q1, pi q2, pi q3, .at (.bool c)]
def inR (n : Nat) (i : Int) : Bool := decide (-1 ≤ i ∧ i < n)
section
variable {n : Nat} {q0 q1 q2 q3 : Int} {c : Bool} {a b : Int}
theorem is1_ok {i : Int} (hi : -9223372036854775808 ≤ i ∧ i ≤ 9223372036854775807) (hx : n ≤ 4) : VCall cfg 72 [vi i, .p (.fp 0 [.fp 0 (jugQ n q0 q1 q2 q3 c)])] [] [] (vb (inR n i)) [] := by
  (refine VCall.mk (fn := a72) rfl rfl rfl ?_; simp only [a72, inV, mkB, nmsL, PT.set])
  simp only [jugQ]
  (repeat (first | refine VC.seq ?_ | refine VC.block ?_ | refine VC.kill ?_ | refine VC.skip ?_ | refine VC.exit ?_ | refine VC.regA ?_ | refine VC.condT ?_ | refine VC.condF ?_))
  by_cases h1 : i < -1
  · (repeat (first | refine VC.seq ?_ | refine VC.block ?_ | refine VC.kill ?_ | refine VC.skip ?_ | refine VC.exit ?_ | refine VC.regA ?_ | refine VC.condT ?_ | refine VC.condF ?_))
    refine VC.ret (Fin.A ?_)
    rw [inR, decide_eq_false (by omega)]; rfl
  have h1 : -1 ≤ i := by omega
  (repeat (first | refine VC.seq ?_ | refine VC.block ?_ | refine VC.kill ?_ | refine VC.skip ?_ | refine VC.exit ?_ | refine VC.regA ?_ | refine VC.condT ?_ | refine VC.condF ?_))
  refine VC.ret (Fin.A ?_)
  have : inR n i = decide (i < n) := by rw [inR, decide_eq_decide]; omega
  rw [this]; rfl
def ag2 (a b : Int) : VV := .agg [vi a, vi b]
def ag4 (f0 f1 f2 f3 : Int) : VV := .agg [vi f0, vi f1, vi f2, vi f3]
def isS (n : Nat) (c : Bool) (a b : Int) : Bool := inR n a && inR n b && decide (a ≠ b) && (!c || (decide (a ≠ -1) && decide (b ≠ -1)))
theorem is_ok (ha : -9223372036854775808 ≤ a ∧ a ≤ 9223372036854775807) (hb : -9223372036854775808 ≤ b ∧ b ≤ 9223372036854775807) (hx : n ≤ 4) :
    VCall cfg 61 [ag2 a b, .p (.fp 0 (jugQ n q0 q1 q2 q3 c))] [] [] (vb (isS n c a b)) [] := by
  have k1 := is1_ok (n := n) (q0 := q0) (q1 := q1) (q2 := q2) (q3 := q3) (c := c) ha hx
  have k2 := is1_ok (n := n) (q0 := q0) (q1 := q1) (q2 := q2) (q3 := q3) (c := c) hb hx
  (refine VCall.mk (fn := a61) rfl rfl rfl ?_; simp only [a61, inV, mkB, nmsL, PT.set])
  simp only [ag2, jugQ] at *
  (repeat (first | refine VC.seq ?_ | refine VC.block ?_ | refine VC.kill ?_ | refine VC.skip ?_ | refine VC.exit ?_ | refine VC.regA ?_ | refine VC.condT ?_ | refine VC.condF ?_))
  refine VC.frzA p3 ?_
  refine VC.regCA ?_
  refine VO.moreA ?_
  refine VO.call0A (no_orc 72 (by decide)) k1 ?_
  cases h1 : inR n a with
  | false =>
    (apply VO.uptoE; · ((repeat (rw [runU_cons]; (simp (config := {decide := false, maxSteps := 1000000}) (disch := omega) only [vev_call, putC_c0, putC_n0, putC_cs, ble0, List.getElem?_cons_zero, List.getElem?_cons_succ, isCall, wantV, vev, evV, ofVal, ofAtom, atomB, cond_true, cond_false, PT.get, PT.set, PT.filt, PT.map, Option.getD_some, Option.getD_none, ret1V, ret1X, v_ld, v_ias, v_iad, v_fad, v_slsl, v_slarr, v_st, v_app, v_cpy, v_len, v_look, v_mset, elsV, partV, newV, free, atV, atI, atL, toVal, cellsV, okV, VSt.put, VSt.kill, VSt.alloc, VSt.frz, VSt.adopt, noref, norefB, deadB, deadV, nos, nm, nmL, nmB, nmE, Pa.eqb, Bool.not_false, Bool.not_true, Bool.and_true, Bool.true_and, Bool.false_and, Bool.and_false, bin, intOps, intBin, cvt, un, goInt, bndsV, bndV, Option.map_some, Option.map_none, List.map_cons, List.map_nil, Int.toNat_natCast, Nat.mul_one, Nat.zero_add, beq_true, beq_false, beq_self_eq_true, List.length_map, List.length_cons, List.length_nil, List.length_append, fillV, pEvV, repsV, List.append_nil, List.nil_append, if_pos, if_neg, reduceIte, List.getElem?_map, List.getElem?_drop, Nat.add_zero, List.getElem?_eq_getElem, Go.IntWalk.i64_in, wrap_u64, tmod_pos, eq_self, true_and, and_true, and_self, List.all_cons, List.all_nil, nmL_vi, flV_len, flP_len, flV_nm, flV_ok, flV_pv, flP_map, drop_flP, drop_flV, putC_flV, eqV2, eqV3, bneT, bneF, decide_true, decide_false, frzL_vi, frzL_flV, eqV_slice, eqV_ptr, eqV_func, nilS, nilP, nilF, nmL_append, okL_vi, toPVs_vi, toPVs, toPV, frzV, frzL, frzB, resVV, vi, vb, nilV, sl1, bl1, pi, foldV, max2, min2, max_eq, min_eq, Int.tdiv_eq_ediv_of_nonneg, Int.cast_ofNat_Int, Option.isSome_none, Option.isSome_some, Option.isNone_none, Option.isNone_some, and_false, false_and, sl2, sl1P, slP, min_cast, take_map_pi, map_pi, Nat.sub_zero, Nat.zero_mul, List.length_take, decide_eq_true, decide_eq_false, Bool.true_eq_false, Bool.false_eq_true, beqT, beqF, ibeq, ibne, List.take_zero, List.take_succ_cons, List.drop_zero, List.drop_succ_cons, List.drop_nil, List.take_nil, List.cons_append, Bool.not_true, Bool.not_false]))); rfl))
    (repeat (first | refine VC.seq ?_ | refine VC.block ?_ | refine VC.kill ?_ | refine VC.skip ?_ | refine VC.exit ?_ | refine VC.regA ?_ | refine VC.condT ?_ | refine VC.condF ?_))
    refine VC.ret (Fin.A ?_); simp [isS, h1]; rfl
  | true =>
  (apply VO.upto; · ((repeat (rw [runU_cons]; (simp (config := {decide := false, maxSteps := 1000000}) (disch := omega) only [vev_call, putC_c0, putC_n0, putC_cs, ble0, List.getElem?_cons_zero, List.getElem?_cons_succ, isCall, wantV, vev, evV, ofVal, ofAtom, atomB, cond_true, cond_false, PT.get, PT.set, PT.filt, PT.map, Option.getD_some, Option.getD_none, ret1V, ret1X, v_ld, v_ias, v_iad, v_fad, v_slsl, v_slarr, v_st, v_app, v_cpy, v_len, v_look, v_mset, elsV, partV, newV, free, atV, atI, atL, toVal, cellsV, okV, VSt.put, VSt.kill, VSt.alloc, VSt.frz, VSt.adopt, noref, norefB, deadB, deadV, nos, nm, nmL, nmB, nmE, Pa.eqb, Bool.not_false, Bool.not_true, Bool.and_true, Bool.true_and, Bool.false_and, Bool.and_false, bin, intOps, intBin, cvt, un, goInt, bndsV, bndV, Option.map_some, Option.map_none, List.map_cons, List.map_nil, Int.toNat_natCast, Nat.mul_one, Nat.zero_add, beq_true, beq_false, beq_self_eq_true, List.length_map, List.length_cons, List.length_nil, List.length_append, fillV, pEvV, repsV, List.append_nil, List.nil_append, if_pos, if_neg, reduceIte, List.getElem?_map, List.getElem?_drop, Nat.add_zero, List.getElem?_eq_getElem, Go.IntWalk.i64_in, wrap_u64, tmod_pos, eq_self, true_and, and_true, and_self, List.all_cons, List.all_nil, nmL_vi, flV_len, flP_len, flV_nm, flV_ok, flV_pv, flP_map, drop_flP, drop_flV, putC_flV, eqV2, eqV3, bneT, bneF, decide_true, decide_false, frzL_vi, frzL_flV, eqV_slice, eqV_ptr, eqV_func, nilS, nilP, nilF, nmL_append, okL_vi, toPVs_vi, toPVs, toPV, frzV, frzL, frzB, resVV, vi, vb, nilV, sl1, bl1, pi, foldV, max2, min2, max_eq, min_eq, Int.tdiv_eq_ediv_of_nonneg, Int.cast_ofNat_Int, Option.isSome_none, Option.isSome_some, Option.isNone_none, Option.isNone_some, and_false, false_and, sl2, sl1P, slP, min_cast, take_map_pi, map_pi, Nat.sub_zero, Nat.zero_mul, List.length_take, decide_eq_true, decide_eq_false, Bool.true_eq_false, Bool.false_eq_true, beqT, beqF, ibeq, ibne, List.take_zero, List.take_succ_cons, List.drop_zero, List.drop_succ_cons, List.drop_nil, List.take_nil, List.cons_append, Bool.not_true, Bool.not_false]))); rfl))
  refine VO.call0A (no_orc 72 (by decide)) k2 ?_
  cases h2 : inR n b with
  | false =>
    (apply VO.uptoE; · ((repeat (rw [runU_cons]; (simp (config := {decide := false, maxSteps := 1000000}) (disch := omega) only [vev_call, putC_c0, putC_n0, putC_cs, ble0, List.getElem?_cons_zero, List.getElem?_cons_succ, isCall, wantV, vev, evV, ofVal, ofAtom, atomB, cond_true, cond_false, PT.get, PT.set, PT.filt, PT.map, Option.getD_some, Option.getD_none, ret1V, ret1X, v_ld, v_ias, v_iad, v_fad, v_slsl, v_slarr, v_st, v_app, v_cpy, v_len, v_look, v_mset, elsV, partV, newV, free, atV, atI, atL, toVal, cellsV, okV, VSt.put, VSt.kill, VSt.alloc, VSt.frz, VSt.adopt, noref, norefB, deadB, deadV, nos, nm, nmL, nmB, nmE, Pa.eqb, Bool.not_false, Bool.not_true, Bool.and_true, Bool.true_and, Bool.false_and, Bool.and_false, bin, intOps, intBin, cvt, un, goInt, bndsV, bndV, Option.map_some, Option.map_none, List.map_cons, List.map_nil, Int.toNat_natCast, Nat.mul_one, Nat.zero_add, beq_true, beq_false, beq_self_eq_true, List.length_map, List.length_cons, List.length_nil, List.length_append, fillV, pEvV, repsV, List.append_nil, List.nil_append, if_pos, if_neg, reduceIte, List.getElem?_map, List.getElem?_drop, Nat.add_zero, List.getElem?_eq_getElem, Go.IntWalk.i64_in, wrap_u64, tmod_pos, eq_self, true_and, and_true, and_self, List.all_cons, List.all_nil, nmL_vi, flV_len, flP_len, flV_nm, flV_ok, flV_pv, flP_map, drop_flP, drop_flV, putC_flV, eqV2, eqV3, bneT, bneF, decide_true, decide_false, frzL_vi, frzL_flV, eqV_slice, eqV_ptr, eqV_func, nilS, nilP, nilF, nmL_append, okL_vi, toPVs_vi, toPVs, toPV, frzV, frzL, frzB, resVV, vi, vb, nilV, sl1, bl1, pi, foldV, max2, min2, max_eq, min_eq, Int.tdiv_eq_ediv_of_nonneg, Int.cast_ofNat_Int, Option.isSome_none, Option.isSome_some, Option.isNone_none, Option.isNone_some, and_false, false_and, sl2, sl1P, slP, min_cast, take_map_pi, map_pi, Nat.sub_zero, Nat.zero_mul, List.length_take, decide_eq_true, decide_eq_false, Bool.true_eq_false, Bool.false_eq_true, beqT, beqF, ibeq, ibne, List.take_zero, List.take_succ_cons, List.drop_zero, List.drop_succ_cons, List.drop_nil, List.take_nil, List.cons_append, Bool.not_true, Bool.not_false]))); rfl))
    (repeat (first | refine VC.seq ?_ | refine VC.block ?_ | refine VC.kill ?_ | refine VC.skip ?_ | refine VC.exit ?_ | refine VC.regA ?_ | refine VC.condT ?_ | refine VC.condF ?_))
    refine VC.ret (Fin.A ?_); simp [isS, h1, h2]; rfl
  | true =>
  by_cases h3 : a = b
  · (apply VO.uptoE; · ((repeat (rw [runU_cons]; (simp (config := {decide := false, maxSteps := 1000000}) (disch := omega) only [vev_call, putC_c0, putC_n0, putC_cs, ble0, List.getElem?_cons_zero, List.getElem?_cons_succ, isCall, wantV, vev, evV, ofVal, ofAtom, atomB, cond_true, cond_false, PT.get, PT.set, PT.filt, PT.map, Option.getD_some, Option.getD_none, ret1V, ret1X, v_ld, v_ias, v_iad, v_fad, v_slsl, v_slarr, v_st, v_app, v_cpy, v_len, v_look, v_mset, elsV, partV, newV, free, atV, atI, atL, toVal, cellsV, okV, VSt.put, VSt.kill, VSt.alloc, VSt.frz, VSt.adopt, noref, norefB, deadB, deadV, nos, nm, nmL, nmB, nmE, Pa.eqb, Bool.not_false, Bool.not_true, Bool.and_true, Bool.true_and, Bool.false_and, Bool.and_false, bin, intOps, intBin, cvt, un, goInt, bndsV, bndV, Option.map_some, Option.map_none, List.map_cons, List.map_nil, Int.toNat_natCast, Nat.mul_one, Nat.zero_add, beq_true, beq_false, beq_self_eq_true, List.length_map, List.length_cons, List.length_nil, List.length_append, fillV, pEvV, repsV, List.append_nil, List.nil_append, if_pos, if_neg, reduceIte, List.getElem?_map, List.getElem?_drop, Nat.add_zero, List.getElem?_eq_getElem, Go.IntWalk.i64_in, wrap_u64, tmod_pos, eq_self, true_and, and_true, and_self, List.all_cons, List.all_nil, nmL_vi, flV_len, flP_len, flV_nm, flV_ok, flV_pv, flP_map, drop_flP, drop_flV, putC_flV, eqV2, eqV3, bneT, bneF, decide_true, decide_false, frzL_vi, frzL_flV, eqV_slice, eqV_ptr, eqV_func, nilS, nilP, nilF, nmL_append, okL_vi, toPVs_vi, toPVs, toPV, frzV, frzL, frzB, resVV, vi, vb, nilV, sl1, bl1, pi, foldV, max2, min2, max_eq, min_eq, Int.tdiv_eq_ediv_of_nonneg, Int.cast_ofNat_Int, Option.isSome_none, Option.isSome_some, Option.isNone_none, Option.isNone_some, and_false, false_and, sl2, sl1P, slP, min_cast, take_map_pi, map_pi, Nat.sub_zero, Nat.zero_mul, List.length_take, decide_eq_true, decide_eq_false, Bool.true_eq_false, Bool.false_eq_true, beqT, beqF, ibeq, ibne, List.take_zero, List.take_succ_cons, List.drop_zero, List.drop_succ_cons, List.drop_nil, List.take_nil, List.cons_append, Bool.not_true, Bool.not_false]))); rfl))
    (repeat (first | refine VC.seq ?_ | refine VC.block ?_ | refine VC.kill ?_ | refine VC.skip ?_ | refine VC.exit ?_ | refine VC.regA ?_ | refine VC.condT ?_ | refine VC.condF ?_))
    refine VC.ret (Fin.A ?_); simp [isS, h3]; rfl
  cases c with
  | false =>
    (apply VO.uptoE; · ((repeat (rw [runU_cons]; (simp (config := {decide := false, maxSteps := 1000000}) (disch := omega) only [vev_call, putC_c0, putC_n0, putC_cs, ble0, List.getElem?_cons_zero, List.getElem?_cons_succ, isCall, wantV, vev, evV, ofVal, ofAtom, atomB, cond_true, cond_false, PT.get, PT.set, PT.filt, PT.map, Option.getD_some, Option.getD_none, ret1V, ret1X, v_ld, v_ias, v_iad, v_fad, v_slsl, v_slarr, v_st, v_app, v_cpy, v_len, v_look, v_mset, elsV, partV, newV, free, atV, atI, atL, toVal, cellsV, okV, VSt.put, VSt.kill, VSt.alloc, VSt.frz, VSt.adopt, noref, norefB, deadB, deadV, nos, nm, nmL, nmB, nmE, Pa.eqb, Bool.not_false, Bool.not_true, Bool.and_true, Bool.true_and, Bool.false_and, Bool.and_false, bin, intOps, intBin, cvt, un, goInt, bndsV, bndV, Option.map_some, Option.map_none, List.map_cons, List.map_nil, Int.toNat_natCast, Nat.mul_one, Nat.zero_add, beq_true, beq_false, beq_self_eq_true, List.length_map, List.length_cons, List.length_nil, List.length_append, fillV, pEvV, repsV, List.append_nil, List.nil_append, if_pos, if_neg, reduceIte, List.getElem?_map, List.getElem?_drop, Nat.add_zero, List.getElem?_eq_getElem, Go.IntWalk.i64_in, wrap_u64, tmod_pos, eq_self, true_and, and_true, and_self, List.all_cons, List.all_nil, nmL_vi, flV_len, flP_len, flV_nm, flV_ok, flV_pv, flP_map, drop_flP, drop_flV, putC_flV, eqV2, eqV3, bneT, bneF, decide_true, decide_false, frzL_vi, frzL_flV, eqV_slice, eqV_ptr, eqV_func, nilS, nilP, nilF, nmL_append, okL_vi, toPVs_vi, toPVs, toPV, frzV, frzL, frzB, resVV, vi, vb, nilV, sl1, bl1, pi, foldV, max2, min2, max_eq, min_eq, Int.tdiv_eq_ediv_of_nonneg, Int.cast_ofNat_Int, Option.isSome_none, Option.isSome_some, Option.isNone_none, Option.isNone_some, and_false, false_and, sl2, sl1P, slP, min_cast, take_map_pi, map_pi, Nat.sub_zero, Nat.zero_mul, List.length_take, decide_eq_true, decide_eq_false, Bool.true_eq_false, Bool.false_eq_true, beqT, beqF, ibeq, ibne, List.take_zero, List.take_succ_cons, List.drop_zero, List.drop_succ_cons, List.drop_nil, List.take_nil, List.cons_append, Bool.not_true, Bool.not_false]))); rfl))
    (repeat (first | refine VC.seq ?_ | refine VC.block ?_ | refine VC.kill ?_ | refine VC.skip ?_ | refine VC.exit ?_ | refine VC.regA ?_ | refine VC.condT ?_ | refine VC.condF ?_))
    refine VC.ret (Fin.A ?_); simp [isS, h1, h2, h3]; rfl
  | true =>
  by_cases h4 : a = -1
  · (apply VO.uptoE; · ((repeat (rw [runU_cons]; (simp (config := {decide := false, maxSteps := 1000000}) (disch := omega) only [vev_call, putC_c0, putC_n0, putC_cs, ble0, List.getElem?_cons_zero, List.getElem?_cons_succ, isCall, wantV, vev, evV, ofVal, ofAtom, atomB, cond_true, cond_false, PT.get, PT.set, PT.filt, PT.map, Option.getD_some, Option.getD_none, ret1V, ret1X, v_ld, v_ias, v_iad, v_fad, v_slsl, v_slarr, v_st, v_app, v_cpy, v_len, v_look, v_mset, elsV, partV, newV, free, atV, atI, atL, toVal, cellsV, okV, VSt.put, VSt.kill, VSt.alloc, VSt.frz, VSt.adopt, noref, norefB, deadB, deadV, nos, nm, nmL, nmB, nmE, Pa.eqb, Bool.not_false, Bool.not_true, Bool.and_true, Bool.true_and, Bool.false_and, Bool.and_false, bin, intOps, intBin, cvt, un, goInt, bndsV, bndV, Option.map_some, Option.map_none, List.map_cons, List.map_nil, Int.toNat_natCast, Nat.mul_one, Nat.zero_add, beq_true, beq_false, beq_self_eq_true, List.length_map, List.length_cons, List.length_nil, List.length_append, fillV, pEvV, repsV, List.append_nil, List.nil_append, if_pos, if_neg, reduceIte, List.getElem?_map, List.getElem?_drop, Nat.add_zero, List.getElem?_eq_getElem, Go.IntWalk.i64_in, wrap_u64, tmod_pos, eq_self, true_and, and_true, and_self, List.all_cons, List.all_nil, nmL_vi, flV_len, flP_len, flV_nm, flV_ok, flV_pv, flP_map, drop_flP, drop_flV, putC_flV, eqV2, eqV3, bneT, bneF, decide_true, decide_false, frzL_vi, frzL_flV, eqV_slice, eqV_ptr, eqV_func, nilS, nilP, nilF, nmL_append, okL_vi, toPVs_vi, toPVs, toPV, frzV, frzL, frzB, resVV, vi, vb, nilV, sl1, bl1, pi, foldV, max2, min2, max_eq, min_eq, Int.tdiv_eq_ediv_of_nonneg, Int.cast_ofNat_Int, Option.isSome_none, Option.isSome_some, Option.isNone_none, Option.isNone_some, and_false, false_and, sl2, sl1P, slP, min_cast, take_map_pi, map_pi, Nat.sub_zero, Nat.zero_mul, List.length_take, decide_eq_true, decide_eq_false, Bool.true_eq_false, Bool.false_eq_true, beqT, beqF, ibeq, ibne, List.take_zero, List.take_succ_cons, List.drop_zero, List.drop_succ_cons, List.drop_nil, List.take_nil, List.cons_append, Bool.not_true, Bool.not_false]))); rfl))
    (repeat (first | refine VC.seq ?_ | refine VC.block ?_ | refine VC.kill ?_ | refine VC.skip ?_ | refine VC.exit ?_ | refine VC.regA ?_ | refine VC.condT ?_ | refine VC.condF ?_))
    refine VC.ret (Fin.A ?_); simp [isS, h4]; rfl
  (apply VO.uptoE; · ((repeat (rw [runU_cons]; (simp (config := {decide := false, maxSteps := 1000000}) (disch := omega) only [vev_call, putC_c0, putC_n0, putC_cs, ble0, List.getElem?_cons_zero, List.getElem?_cons_succ, isCall, wantV, vev, evV, ofVal, ofAtom, atomB, cond_true, cond_false, PT.get, PT.set, PT.filt, PT.map, Option.getD_some, Option.getD_none, ret1V, ret1X, v_ld, v_ias, v_iad, v_fad, v_slsl, v_slarr, v_st, v_app, v_cpy, v_len, v_look, v_mset, elsV, partV, newV, free, atV, atI, atL, toVal, cellsV, okV, VSt.put, VSt.kill, VSt.alloc, VSt.frz, VSt.adopt, noref, norefB, deadB, deadV, nos, nm, nmL, nmB, nmE, Pa.eqb, Bool.not_false, Bool.not_true, Bool.and_true, Bool.true_and, Bool.false_and, Bool.and_false, bin, intOps, intBin, cvt, un, goInt, bndsV, bndV, Option.map_some, Option.map_none, List.map_cons, List.map_nil, Int.toNat_natCast, Nat.mul_one, Nat.zero_add, beq_true, beq_false, beq_self_eq_true, List.length_map, List.length_cons, List.length_nil, List.length_append, fillV, pEvV, repsV, List.append_nil, List.nil_append, if_pos, if_neg, reduceIte, List.getElem?_map, List.getElem?_drop, Nat.add_zero, List.getElem?_eq_getElem, Go.IntWalk.i64_in, wrap_u64, tmod_pos, eq_self, true_and, and_true, and_self, List.all_cons, List.all_nil, nmL_vi, flV_len, flP_len, flV_nm, flV_ok, flV_pv, flP_map, drop_flP, drop_flV, putC_flV, eqV2, eqV3, bneT, bneF, decide_true, decide_false, frzL_vi, frzL_flV, eqV_slice, eqV_ptr, eqV_func, nilS, nilP, nilF, nmL_append, okL_vi, toPVs_vi, toPVs, toPV, frzV, frzL, frzB, resVV, vi, vb, nilV, sl1, bl1, pi, foldV, max2, min2, max_eq, min_eq, Int.tdiv_eq_ediv_of_nonneg, Int.cast_ofNat_Int, Option.isSome_none, Option.isSome_some, Option.isNone_none, Option.isNone_some, and_false, false_and, sl2, sl1P, slP, min_cast, take_map_pi, map_pi, Nat.sub_zero, Nat.zero_mul, List.length_take, decide_eq_true, decide_eq_false, Bool.true_eq_false, Bool.false_eq_true, beqT, beqF, ibeq, ibne, List.take_zero, List.take_succ_cons, List.drop_zero, List.drop_succ_cons, List.drop_nil, List.take_nil, List.cons_append, Bool.not_true, Bool.not_false]))); rfl))
  (repeat (first | refine VC.seq ?_ | refine VC.block ?_ | refine VC.kill ?_ | refine VC.skip ?_ | refine VC.exit ?_ | refine VC.regA ?_ | refine VC.condT ?_ | refine VC.condF ?_))
  refine VC.ret (Fin.A ?_); simp [isS, h1, h2, h3, h4]; rfl
end
end Go.Ab.Jug

namespace Go.Ab.Jug
open Go.Ab.V
set_option maxRecDepth 100000
def atQ (l : List Int) (i : Int) : Int := l.getD i.toNat 0
def doS (q f : List Int) (a b : Int) : List Int :=
  if a = -1 then f.set b.toNat (atQ q b) else if b = -1 then f.set a.toNat 0
  else (f.set a.toNat (atQ f a - min (atQ f a) (atQ q b - atQ f b))).set b.toNat (atQ f b + min (atQ f a) (atQ q b - atQ f b))
section
variable {n : Nat} {q0 q1 q2 q3 f0 f1 f2 f3 : Int} {c : Bool} {a b : Int}
set_option maxHeartbeats 4000000 in
theorem do_ok (ha : -1 ≤ a ∧ a < 4) (hb : -1 ≤ b ∧ b < 4) (hab : a ≠ b) (h0 : 0 ≤ f0 ∧ f0 ≤ q0 ∧ q0 ≤ 12) (h1 : 0 ≤ f1 ∧ f1 ≤ q1 ∧ q1 ≤ 12) (h2 : 0 ≤ f2 ∧ f2 ≤ q2 ∧ q2 ≤ 12) (h3 : 0 ≤ f3 ∧ f3 ≤ q3 ∧ q3 ≤ 12) :
    VCall cfg 62 [ag2 a b, .p (.fp 0 (jugQ n q0 q1 q2 q3 c)), ag4 f0 f1 f2 f3] [] [] (.agg ((doS [q0, q1, q2, q3] [f0, f1, f2, f3] a b).map vi)) [] := by
  (refine VCall.mk (fn := a62) rfl rfl rfl ?_; simp only [a62, inV, mkB, nmsL, PT.set])
  simp only [ag2, ag4, jugQ]
  by_cases hA : a = -1
  · subst hA
    obtain rfl | rfl | rfl | rfl : b = 0 ∨ b = 1 ∨ b = 2 ∨ b = 3 := by omega
    all_goals
      (repeat (first | refine VC.seq ?_ | refine VC.block ?_ | refine VC.kill ?_ | refine VC.skip ?_ | refine VC.exit ?_ | refine VC.regA ?_ | refine VC.condT ?_ | refine VC.condF ?_))
      exact VC.ret (Fin.A (hys := rfl) rfl)
  by_cases hB : b = -1
  · subst hB
    obtain rfl | rfl | rfl | rfl : a = 0 ∨ a = 1 ∨ a = 2 ∨ a = 3 := by omega
    all_goals
      (repeat (first | refine VC.seq ?_ | refine VC.block ?_ | refine VC.kill ?_ | refine VC.skip ?_ | refine VC.exit ?_ | refine VC.regA ?_ | refine VC.condT ?_ | refine VC.condF ?_))
      exact VC.ret (Fin.A (hys := rfl) rfl)
  obtain rfl | rfl | rfl | rfl : a = 0 ∨ a = 1 ∨ a = 2 ∨ a = 3 := by omega
  · obtain rfl | rfl | rfl : b = 1 ∨ b = 2 ∨ b = 3 := by omega
    all_goals
      (repeat (first | refine VC.seq ?_ | refine VC.block ?_ | refine VC.kill ?_ | refine VC.skip ?_ | refine VC.exit ?_ | refine VC.regA ?_ | refine VC.condT ?_ | refine VC.condF ?_))
      exact VC.ret (Fin.A (hys := rfl) rfl)
  · obtain rfl | rfl | rfl : b = 0 ∨ b = 2 ∨ b = 3 := by omega
    all_goals
      (repeat (first | refine VC.seq ?_ | refine VC.block ?_ | refine VC.kill ?_ | refine VC.skip ?_ | refine VC.exit ?_ | refine VC.regA ?_ | refine VC.condT ?_ | refine VC.condF ?_))
      exact VC.ret (Fin.A (hys := rfl) rfl)
  · obtain rfl | rfl | rfl : b = 0 ∨ b = 1 ∨ b = 3 := by omega
    all_goals
      (repeat (first | refine VC.seq ?_ | refine VC.block ?_ | refine VC.kill ?_ | refine VC.skip ?_ | refine VC.exit ?_ | refine VC.regA ?_ | refine VC.condT ?_ | refine VC.condF ?_))
      exact VC.ret (Fin.A (hys := rfl) rfl)
  · obtain rfl | rfl | rfl : b = 0 ∨ b = 1 ∨ b = 2 := by omega
    all_goals
      (repeat (first | refine VC.seq ?_ | refine VC.block ?_ | refine VC.kill ?_ | refine VC.skip ?_ | refine VC.exit ?_ | refine VC.regA ?_ | refine VC.condT ?_ | refine VC.condF ?_))
      exact VC.ret (Fin.A (hys := rfl) rfl)
end
end Go.Ab.Jug

namespace Go.Ab.Jug
open Go.Ab.V
set_option maxRecDepth 100000
theorem put_pad0 (x : List Int) (h : x.length ≤ 4) : putC [vi 0, vi 0, vi 0, vi 0] 0 (x.map vi) = (pad4 x).map vi := by
  rcases x with _ | ⟨a, _ | ⟨b, _ | ⟨d, _ | ⟨e, _ | ⟨f, r⟩⟩⟩⟩⟩ <;> first | rfl | simp at h
theorem of_ok (f : List Int) (h4 : f.length ≤ 4) : VCall cfg 48 [sl1 f] [] [] (.agg ((pad4 f).map vi)) [] := by
  have h1 : List.take f.length (f.map vi) = f.map vi := List.take_of_length_le (by simp)
  have h2 : (f.map vi).all okV = true := by simp [vi, okV, noref, nos]
  have h3 : 0 + f.length ≤ 1 + 1 + 1 + 1 := by omega
  have h5 : f.length ≤ 1 + 1 + 1 + 1 := by omega
  have h6 := put_pad0 f h4
  have h7 : f.length ≤ 4 := h4
  have hp : (pad4 f).length = 4 := by simp [pad4]; omega
  simp only [vi] at h6
  (refine VCall.mk (fn := a48) rfl rfl rfl ?_; simp only [a48, inV, mkB, nmsL, PT.set])
  (repeat (first | refine VC.seq ?_ | refine VC.block ?_ | refine VC.kill ?_ | refine VC.skip ?_ | refine VC.exit ?_ | refine VC.regA ?_ | refine VC.condT ?_ | refine VC.condF ?_))
  apply VC.regU
  · (simp (config := {decide := false, maxSteps := 1000000}) (disch := omega) only [vev_call, putC_c0, putC_n0, putC_cs, ble0, List.getElem?_cons_zero, List.getElem?_cons_succ, runU, isCall, wantV, vev, evV, ofVal, ofAtom, atomB, cond_true, cond_false, PT.get, PT.set, PT.filt, PT.map, Option.getD_some, Option.getD_none, ret1V, ret1X, v_ld, v_ias, v_iad, v_fad, v_slsl, v_slarr, v_st, v_app, v_cpy, v_len, v_look, v_mset, elsV, partV, newV, free, atV, atI, atL, toVal, cellsV, okV, VSt.put, VSt.kill, VSt.alloc, VSt.frz, VSt.adopt, noref, norefB, deadB, deadV, nos, nm, nmL, nmB, nmE, Pa.eqb, Bool.not_false, Bool.not_true, Bool.and_true, Bool.true_and, Bool.false_and, Bool.and_false, bin, intOps, intBin, cvt, un, goInt, bndsV, bndV, Option.map_some, Option.map_none, List.map_cons, List.map_nil, Int.toNat_natCast, Nat.mul_one, Nat.zero_add, beq_true, beq_false, beq_self_eq_true, List.length_map, List.length_cons, List.length_nil, List.length_append, fillV, pEvV, repsV, List.append_nil, List.nil_append, if_pos, if_neg, reduceIte, List.getElem?_map, List.getElem?_drop, Nat.add_zero, List.getElem?_eq_getElem, Go.IntWalk.i64_in, wrap_u64, tmod_pos, eq_self, true_and, and_true, and_self, List.all_cons, List.all_nil, nmL_vi, flV_len, flP_len, flV_nm, flV_ok, flV_pv, flP_map, drop_flP, drop_flV, putC_flV, eqV2, eqV3, bneT, bneF, decide_true, decide_false, frzL_vi, frzL_flV, eqV_slice, eqV_ptr, eqV_func, nilS, nilP, nilF, nmL_append, okL_vi, toPVs_vi, toPVs, toPV, frzV, frzL, frzB, resVV, vi, vb, nilV, sl1, bl1, pi, foldV, max2, min2, max_eq, min_eq, Int.tdiv_eq_ediv_of_nonneg, Int.cast_ofNat_Int, Option.isSome_none, Option.isSome_some, Option.isNone_none, Option.isNone_some, and_false, false_and, sl2, sl1P, slP, min_cast, take_map_pi, map_pi, Nat.sub_zero, Nat.zero_mul, List.length_take, decide_eq_true, decide_eq_false, Bool.true_eq_false, Bool.false_eq_true, beqT, beqF, ibeq, ibne, List.take_zero, List.take_succ_cons, List.drop_zero, List.drop_succ_cons, List.drop_nil, List.take_nil, List.cons_append, Bool.not_true, Bool.not_false, true_or, or_true, if_true, h1, h2, h3, h5, h7, ne_eq, true_and, and_true, Nat.succ_ne_self, not_false_eq_true, reduceCtorEq, Nat.one_ne_zero, Nat.min_eq_left h4, h6])
    rfl
  generalize hP : pad4 f = P at *
  obtain ⟨a, b, c, d, rfl⟩ : ∃ a b c d, P = [a, b, c, d] := by
    rcases P with _ | ⟨a, _ | ⟨b, _ | ⟨d, _ | ⟨e, _ | ⟨f, r⟩⟩⟩⟩⟩ <;> first | exact ⟨_, _, _, _, rfl⟩ | simp at hp
  simp only [List.map_cons, List.map_nil]
  (repeat (first | refine VC.seq ?_ | refine VC.block ?_ | refine VC.kill ?_ | refine VC.skip ?_ | refine VC.exit ?_ | refine VC.regA ?_ | refine VC.condT ?_ | refine VC.condF ?_))
  exact VC.ret (Fin.A (hys := rfl) rfl)
end Go.Ab.Jug
