/- A part of the proof of a law: an evaluator of the code, proved sound against the model, and contracts of functions over it. No condition. -/
import Derived.Test.YtdjpaifhmiocnaaDoorProg
import Derived.Test.YtdjpaifhmiocnaaDoorRows
import Derived.LaidLaws
import Derived.Handed
import Derived.KernelRfl
import Derived.Test.YtdjpaifhmiocnaaDoorA03
set_option linter.unusedSimpArgs false
set_option linter.unusedVariables false
namespace Go.Ab.Dues
noncomputable section
set_option maxRecDepth 100000
@[reducible] def p0 : Pa := .z
@[reducible] def p1 : Pa := (.l .z)
@[reducible] def p2 : Pa := (.r .z)
@[reducible] def p3 : Pa := (.l (.l .z))
@[reducible] def p4 : Pa := (.r (.l .z))
@[reducible] def p5 : Pa := (.l (.r .z))
@[reducible] def p6 : Pa := (.r (.r .z))
@[reducible] def p7 : Pa := (.l (.l (.l .z)))
@[reducible] def p8 : Pa := (.r (.l (.l .z)))
@[reducible] def p9 : Pa := (.l (.r (.l .z)))
@[reducible] def p10 : Pa := (.r (.r (.l .z)))
@[reducible] def p11 : Pa := (.l (.l (.r .z)))
@[reducible] def p12 : Pa := (.r (.l (.r .z)))
@[reducible] def p13 : Pa := (.l (.r (.r .z)))
@[reducible] def p14 : Pa := (.r (.r (.r .z)))
@[reducible] def p15 : Pa := (.l (.l (.l (.l .z))))
@[reducible] def p16 : Pa := (.r (.l (.l (.l .z))))
@[reducible] def p17 : Pa := (.l (.r (.l (.l .z))))
@[reducible] def p18 : Pa := (.r (.r (.l (.l .z))))
@[reducible] def p19 : Pa := (.l (.l (.r (.l .z))))
@[reducible] def p20 : Pa := (.r (.l (.r (.l .z))))
@[reducible] def p21 : Pa := (.l (.r (.r (.l .z))))
@[reducible] def p22 : Pa := (.r (.r (.r (.l .z))))
@[reducible] def p23 : Pa := (.l (.l (.l (.r .z))))
@[reducible] def p24 : Pa := (.r (.l (.l (.r .z))))
@[reducible] def p25 : Pa := (.l (.r (.l (.r .z))))
@[reducible] def p26 : Pa := (.r (.r (.l (.r .z))))
@[reducible] def p27 : Pa := (.l (.l (.r (.r .z))))
@[reducible] def p28 : Pa := (.r (.l (.r (.r .z))))
@[reducible] def p29 : Pa := (.l (.r (.r (.r .z))))
@[reducible] def p30 : Pa := (.r (.r (.r (.r .z))))
@[reducible] def p31 : Pa := (.l (.l (.l (.l (.l .z)))))
@[reducible] def p32 : Pa := (.r (.l (.l (.l (.l .z)))))
@[reducible] def p33 : Pa := (.l (.r (.l (.l (.l .z)))))
@[reducible] def p34 : Pa := (.r (.r (.l (.l (.l .z)))))
@[reducible] def p35 : Pa := (.l (.l (.r (.l (.l .z)))))
@[reducible] def p36 : Pa := (.r (.l (.r (.l (.l .z)))))
@[reducible] def p37 : Pa := (.l (.r (.r (.l (.l .z)))))
@[reducible] def p38 : Pa := (.r (.r (.r (.l (.l .z)))))
@[reducible] def p39 : Pa := (.l (.l (.l (.r (.l .z)))))
@[reducible] def p40 : Pa := (.r (.l (.l (.r (.l .z)))))
@[reducible] def p41 : Pa := (.l (.r (.l (.r (.l .z)))))
@[reducible] def p42 : Pa := (.r (.r (.l (.r (.l .z)))))
@[reducible] def p43 : Pa := (.l (.l (.r (.r (.l .z)))))
@[reducible] def p44 : Pa := (.r (.l (.r (.r (.l .z)))))
@[reducible] def p45 : Pa := (.l (.r (.r (.r (.l .z)))))
@[reducible] def p46 : Pa := (.r (.r (.r (.r (.l .z)))))
@[reducible] def p47 : Pa := (.l (.l (.l (.l (.r .z)))))
@[reducible] def p48 : Pa := (.r (.l (.l (.l (.r .z)))))
@[reducible] def p49 : Pa := (.l (.r (.l (.l (.r .z)))))
@[reducible] def p50 : Pa := (.r (.r (.l (.l (.r .z)))))
@[reducible] def p51 : Pa := (.l (.l (.r (.l (.r .z)))))
@[reducible] def p52 : Pa := (.r (.l (.r (.l (.r .z)))))
@[reducible] def p53 : Pa := (.l (.r (.r (.l (.r .z)))))
@[reducible] def p54 : Pa := (.r (.r (.r (.l (.r .z)))))
@[reducible] def p55 : Pa := (.l (.l (.l (.r (.r .z)))))
@[reducible] def p56 : Pa := (.r (.l (.l (.r (.r .z)))))
@[reducible] def p57 : Pa := (.l (.r (.l (.r (.r .z)))))
@[reducible] def p58 : Pa := (.r (.r (.l (.r (.r .z)))))
@[reducible] def p59 : Pa := (.l (.l (.r (.r (.r .z)))))
@[reducible] def p60 : Pa := (.r (.l (.r (.r (.r .z)))))
@[reducible] def p61 : Pa := (.l (.r (.r (.r (.r .z)))))
@[reducible] def p62 : Pa := (.r (.r (.r (.r (.r .z)))))
@[reducible] def p63 : Pa := (.l (.l (.l (.l (.l (.l .z))))))
@[reducible] def p64 : Pa := (.r (.l (.l (.l (.l (.l .z))))))
@[reducible] def p65 : Pa := (.l (.r (.l (.l (.l (.l .z))))))
@[reducible] def p66 : Pa := (.r (.r (.l (.l (.l (.l .z))))))
@[reducible] def p67 : Pa := (.l (.l (.r (.l (.l (.l .z))))))
@[reducible] def p68 : Pa := (.r (.l (.r (.l (.l (.l .z))))))
@[reducible] def p69 : Pa := (.l (.r (.r (.l (.l (.l .z))))))
@[reducible] def p70 : Pa := (.r (.r (.r (.l (.l (.l .z))))))
@[reducible] def p71 : Pa := (.l (.l (.l (.r (.l (.l .z))))))
@[reducible] def p72 : Pa := (.r (.l (.l (.r (.l (.l .z))))))
@[reducible] def p73 : Pa := (.l (.r (.l (.r (.l (.l .z))))))
@[reducible] def p74 : Pa := (.r (.r (.l (.r (.l (.l .z))))))
@[reducible] def p75 : Pa := (.l (.l (.r (.r (.l (.l .z))))))
@[reducible] def p76 : Pa := (.r (.l (.r (.r (.l (.l .z))))))
@[reducible] def p77 : Pa := (.l (.r (.r (.r (.l (.l .z))))))
@[reducible] def p78 : Pa := (.r (.r (.r (.r (.l (.l .z))))))
@[reducible] def p79 : Pa := (.l (.l (.l (.l (.r (.l .z))))))
@[reducible] def p80 : Pa := (.r (.l (.l (.l (.r (.l .z))))))
@[reducible] def p81 : Pa := (.l (.r (.l (.l (.r (.l .z))))))
@[reducible] def p82 : Pa := (.r (.r (.l (.l (.r (.l .z))))))
@[reducible] def p83 : Pa := (.l (.l (.r (.l (.r (.l .z))))))
@[reducible] def p84 : Pa := (.r (.l (.r (.l (.r (.l .z))))))
@[reducible] def p85 : Pa := (.l (.r (.r (.l (.r (.l .z))))))
@[reducible] def p86 : Pa := (.r (.r (.r (.l (.r (.l .z))))))
@[reducible] def p87 : Pa := (.l (.l (.l (.r (.r (.l .z))))))
@[reducible] def p88 : Pa := (.r (.l (.l (.r (.r (.l .z))))))
@[reducible] def p89 : Pa := (.l (.r (.l (.r (.r (.l .z))))))
@[reducible] def p90 : Pa := (.r (.r (.l (.r (.r (.l .z))))))
@[reducible] def p91 : Pa := (.l (.l (.r (.r (.r (.l .z))))))
@[reducible] def p92 : Pa := (.r (.l (.r (.r (.r (.l .z))))))
@[reducible] def p93 : Pa := (.l (.r (.r (.r (.r (.l .z))))))
@[reducible] def p94 : Pa := (.r (.r (.r (.r (.r (.l .z))))))
@[reducible] def p95 : Pa := (.l (.l (.l (.l (.l (.r .z))))))
@[reducible] def p96 : Pa := (.r (.l (.l (.l (.l (.r .z))))))
@[reducible] def p97 : Pa := (.l (.r (.l (.l (.l (.r .z))))))
@[reducible] def p98 : Pa := (.r (.r (.l (.l (.l (.r .z))))))
@[reducible] def p99 : Pa := (.l (.l (.r (.l (.l (.r .z))))))
@[reducible] def p100 : Pa := (.r (.l (.r (.l (.l (.r .z))))))
@[reducible] def p101 : Pa := (.l (.r (.r (.l (.l (.r .z))))))
@[reducible] def p102 : Pa := (.r (.r (.r (.l (.l (.r .z))))))
@[reducible] def p103 : Pa := (.l (.l (.l (.r (.l (.r .z))))))
@[reducible] def p104 : Pa := (.r (.l (.l (.r (.l (.r .z))))))
@[reducible] def p105 : Pa := (.l (.r (.l (.r (.l (.r .z))))))
@[reducible] def p106 : Pa := (.r (.r (.l (.r (.l (.r .z))))))
@[reducible] def p107 : Pa := (.l (.l (.r (.r (.l (.r .z))))))
@[reducible] def p108 : Pa := (.r (.l (.r (.r (.l (.r .z))))))
@[reducible] def p109 : Pa := (.l (.r (.r (.r (.l (.r .z))))))
@[reducible] def p110 : Pa := (.r (.r (.r (.r (.l (.r .z))))))
@[reducible] def p111 : Pa := (.l (.l (.l (.l (.r (.r .z))))))
@[reducible] def p112 : Pa := (.r (.l (.l (.l (.r (.r .z))))))
@[reducible] def p113 : Pa := (.l (.r (.l (.l (.r (.r .z))))))
@[reducible] def p114 : Pa := (.r (.r (.l (.l (.r (.r .z))))))
@[reducible] def p115 : Pa := (.l (.l (.r (.l (.r (.r .z))))))
@[reducible] def p116 : Pa := (.r (.l (.r (.l (.r (.r .z))))))
@[reducible] def p117 : Pa := (.l (.r (.r (.l (.r (.r .z))))))
@[reducible] def p118 : Pa := (.r (.r (.r (.l (.r (.r .z))))))
@[reducible] def p119 : Pa := (.l (.l (.l (.r (.r (.r .z))))))
@[reducible] def p120 : Pa := (.r (.l (.l (.r (.r (.r .z))))))
@[reducible] def p121 : Pa := (.l (.r (.l (.r (.r (.r .z))))))
@[reducible] def p122 : Pa := (.r (.r (.l (.r (.r (.r .z))))))
@[reducible] def p123 : Pa := (.l (.l (.r (.r (.r (.r .z))))))
@[reducible] def p150 : Pa := (.r (.r (.r (.l (.r (.l (.l .z)))))))
@[reducible] def p151 : Pa := (.l (.l (.l (.r (.r (.l (.l .z)))))))
def i3 : ST := (.nd undef (.nd undef .lf .lf) (.nd undef .lf .lf))
def i4 : ST := (.nd undef (.nd undef (.nd undef .lf .lf) .lf) (.nd undef .lf .lf))
def i6 : ST := (.nd undef (.nd undef (.nd undef .lf .lf) (.nd undef .lf .lf)) (.nd undef (.nd undef .lf .lf) .lf))
def i8 : ST := (.nd undef (.nd undef (.nd undef (.nd undef .lf .lf) .lf) (.nd undef .lf .lf)) (.nd undef (.nd undef .lf .lf) (.nd undef .lf .lf)))
def i9 : ST := (.nd undef (.nd undef (.nd undef (.nd undef .lf .lf) .lf) (.nd undef .lf .lf)) (.nd undef (.nd undef (.nd undef .lf .lf) .lf) (.nd undef .lf .lf)))
def i11 : ST := (.nd undef (.nd undef (.nd undef (.nd undef .lf .lf) .lf) (.nd undef (.nd undef .lf .lf) .lf)) (.nd undef (.nd undef (.nd undef .lf .lf) .lf) (.nd undef (.nd undef .lf .lf) .lf)))
def i12 : ST := (.nd undef (.nd undef (.nd undef (.nd undef .lf .lf) (.nd undef .lf .lf)) (.nd undef (.nd undef .lf .lf) .lf)) (.nd undef (.nd undef (.nd undef .lf .lf) .lf) (.nd undef (.nd undef .lf .lf) .lf)))
def i13 : ST := (.nd undef (.nd undef (.nd undef (.nd undef .lf .lf) (.nd undef .lf .lf)) (.nd undef (.nd undef .lf .lf) .lf)) (.nd undef (.nd undef (.nd undef .lf .lf) (.nd undef .lf .lf)) (.nd undef (.nd undef .lf .lf) .lf)))
def i14 : ST := (.nd undef (.nd undef (.nd undef (.nd undef .lf .lf) (.nd undef .lf .lf)) (.nd undef (.nd undef .lf .lf) (.nd undef .lf .lf))) (.nd undef (.nd undef (.nd undef .lf .lf) (.nd undef .lf .lf)) (.nd undef (.nd undef .lf .lf) .lf)))
def i15 : ST := (.nd undef (.nd undef (.nd undef (.nd undef .lf .lf) (.nd undef .lf .lf)) (.nd undef (.nd undef .lf .lf) (.nd undef .lf .lf))) (.nd undef (.nd undef (.nd undef .lf .lf) (.nd undef .lf .lf)) (.nd undef (.nd undef .lf .lf) (.nd undef .lf .lf))))
def i17 : ST := (.nd undef (.nd undef (.nd undef (.nd undef (.nd undef .lf .lf) .lf) (.nd undef .lf .lf)) (.nd undef (.nd undef .lf .lf) (.nd undef .lf .lf))) (.nd undef (.nd undef (.nd undef (.nd undef .lf .lf) .lf) (.nd undef .lf .lf)) (.nd undef (.nd undef .lf .lf) (.nd undef .lf .lf))))
def i18 : ST := (.nd undef (.nd undef (.nd undef (.nd undef (.nd undef .lf .lf) .lf) (.nd undef .lf .lf)) (.nd undef (.nd undef (.nd undef .lf .lf) .lf) (.nd undef .lf .lf))) (.nd undef (.nd undef (.nd undef (.nd undef .lf .lf) .lf) (.nd undef .lf .lf)) (.nd undef (.nd undef .lf .lf) (.nd undef .lf .lf))))
def i19 : ST := (.nd undef (.nd undef (.nd undef (.nd undef (.nd undef .lf .lf) .lf) (.nd undef .lf .lf)) (.nd undef (.nd undef (.nd undef .lf .lf) .lf) (.nd undef .lf .lf))) (.nd undef (.nd undef (.nd undef (.nd undef .lf .lf) .lf) (.nd undef .lf .lf)) (.nd undef (.nd undef (.nd undef .lf .lf) .lf) (.nd undef .lf .lf))))
def i20 : ST := (.nd undef (.nd undef (.nd undef (.nd undef (.nd undef .lf .lf) .lf) (.nd undef (.nd undef .lf .lf) .lf)) (.nd undef (.nd undef (.nd undef .lf .lf) .lf) (.nd undef .lf .lf))) (.nd undef (.nd undef (.nd undef (.nd undef .lf .lf) .lf) (.nd undef .lf .lf)) (.nd undef (.nd undef (.nd undef .lf .lf) .lf) (.nd undef .lf .lf))))
def i22 : ST := (.nd undef (.nd undef (.nd undef (.nd undef (.nd undef .lf .lf) .lf) (.nd undef (.nd undef .lf .lf) .lf)) (.nd undef (.nd undef (.nd undef .lf .lf) .lf) (.nd undef (.nd undef .lf .lf) .lf))) (.nd undef (.nd undef (.nd undef (.nd undef .lf .lf) .lf) (.nd undef (.nd undef .lf .lf) .lf)) (.nd undef (.nd undef (.nd undef .lf .lf) .lf) (.nd undef .lf .lf))))
def i24 : ST := (.nd undef (.nd undef (.nd undef (.nd undef (.nd undef .lf .lf) (.nd undef .lf .lf)) (.nd undef (.nd undef .lf .lf) .lf)) (.nd undef (.nd undef (.nd undef .lf .lf) .lf) (.nd undef (.nd undef .lf .lf) .lf))) (.nd undef (.nd undef (.nd undef (.nd undef .lf .lf) .lf) (.nd undef (.nd undef .lf .lf) .lf)) (.nd undef (.nd undef (.nd undef .lf .lf) .lf) (.nd undef (.nd undef .lf .lf) .lf))))
def i25 : ST := (.nd undef (.nd undef (.nd undef (.nd undef (.nd undef .lf .lf) (.nd undef .lf .lf)) (.nd undef (.nd undef .lf .lf) .lf)) (.nd undef (.nd undef (.nd undef .lf .lf) .lf) (.nd undef (.nd undef .lf .lf) .lf))) (.nd undef (.nd undef (.nd undef (.nd undef .lf .lf) (.nd undef .lf .lf)) (.nd undef (.nd undef .lf .lf) .lf)) (.nd undef (.nd undef (.nd undef .lf .lf) .lf) (.nd undef (.nd undef .lf .lf) .lf))))
def i26 : ST := (.nd undef (.nd undef (.nd undef (.nd undef (.nd undef .lf .lf) (.nd undef .lf .lf)) (.nd undef (.nd undef .lf .lf) .lf)) (.nd undef (.nd undef (.nd undef .lf .lf) (.nd undef .lf .lf)) (.nd undef (.nd undef .lf .lf) .lf))) (.nd undef (.nd undef (.nd undef (.nd undef .lf .lf) (.nd undef .lf .lf)) (.nd undef (.nd undef .lf .lf) .lf)) (.nd undef (.nd undef (.nd undef .lf .lf) .lf) (.nd undef (.nd undef .lf .lf) .lf))))
def i28 : ST := (.nd undef (.nd undef (.nd undef (.nd undef (.nd undef .lf .lf) (.nd undef .lf .lf)) (.nd undef (.nd undef .lf .lf) (.nd undef .lf .lf))) (.nd undef (.nd undef (.nd undef .lf .lf) (.nd undef .lf .lf)) (.nd undef (.nd undef .lf .lf) .lf))) (.nd undef (.nd undef (.nd undef (.nd undef .lf .lf) (.nd undef .lf .lf)) (.nd undef (.nd undef .lf .lf) .lf)) (.nd undef (.nd undef (.nd undef .lf .lf) (.nd undef .lf .lf)) (.nd undef (.nd undef .lf .lf) .lf))))
def i32 : ST := (.nd undef (.nd undef (.nd undef (.nd undef (.nd undef (.nd undef .lf .lf) .lf) (.nd undef .lf .lf)) (.nd undef (.nd undef .lf .lf) (.nd undef .lf .lf))) (.nd undef (.nd undef (.nd undef .lf .lf) (.nd undef .lf .lf)) (.nd undef (.nd undef .lf .lf) (.nd undef .lf .lf)))) (.nd undef (.nd undef (.nd undef (.nd undef .lf .lf) (.nd undef .lf .lf)) (.nd undef (.nd undef .lf .lf) (.nd undef .lf .lf))) (.nd undef (.nd undef (.nd undef .lf .lf) (.nd undef .lf .lf)) (.nd undef (.nd undef .lf .lf) (.nd undef .lf .lf)))))
def i33 : ST := (.nd undef (.nd undef (.nd undef (.nd undef (.nd undef (.nd undef .lf .lf) .lf) (.nd undef .lf .lf)) (.nd undef (.nd undef .lf .lf) (.nd undef .lf .lf))) (.nd undef (.nd undef (.nd undef .lf .lf) (.nd undef .lf .lf)) (.nd undef (.nd undef .lf .lf) (.nd undef .lf .lf)))) (.nd undef (.nd undef (.nd undef (.nd undef (.nd undef .lf .lf) .lf) (.nd undef .lf .lf)) (.nd undef (.nd undef .lf .lf) (.nd undef .lf .lf))) (.nd undef (.nd undef (.nd undef .lf .lf) (.nd undef .lf .lf)) (.nd undef (.nd undef .lf .lf) (.nd undef .lf .lf)))))
def i39 : ST := (.nd undef (.nd undef (.nd undef (.nd undef (.nd undef (.nd undef .lf .lf) .lf) (.nd undef .lf .lf)) (.nd undef (.nd undef (.nd undef .lf .lf) .lf) (.nd undef .lf .lf))) (.nd undef (.nd undef (.nd undef (.nd undef .lf .lf) .lf) (.nd undef .lf .lf)) (.nd undef (.nd undef (.nd undef .lf .lf) .lf) (.nd undef .lf .lf)))) (.nd undef (.nd undef (.nd undef (.nd undef (.nd undef .lf .lf) .lf) (.nd undef .lf .lf)) (.nd undef (.nd undef (.nd undef .lf .lf) .lf) (.nd undef .lf .lf))) (.nd undef (.nd undef (.nd undef (.nd undef .lf .lf) .lf) (.nd undef .lf .lf)) (.nd undef (.nd undef (.nd undef .lf .lf) .lf) (.nd undef .lf .lf)))))
def i40 : ST := (.nd undef (.nd undef (.nd undef (.nd undef (.nd undef (.nd undef .lf .lf) .lf) (.nd undef (.nd undef .lf .lf) .lf)) (.nd undef (.nd undef (.nd undef .lf .lf) .lf) (.nd undef .lf .lf))) (.nd undef (.nd undef (.nd undef (.nd undef .lf .lf) .lf) (.nd undef .lf .lf)) (.nd undef (.nd undef (.nd undef .lf .lf) .lf) (.nd undef .lf .lf)))) (.nd undef (.nd undef (.nd undef (.nd undef (.nd undef .lf .lf) .lf) (.nd undef .lf .lf)) (.nd undef (.nd undef (.nd undef .lf .lf) .lf) (.nd undef .lf .lf))) (.nd undef (.nd undef (.nd undef (.nd undef .lf .lf) .lf) (.nd undef .lf .lf)) (.nd undef (.nd undef (.nd undef .lf .lf) .lf) (.nd undef .lf .lf)))))
def i43 : ST := (.nd undef (.nd undef (.nd undef (.nd undef (.nd undef (.nd undef .lf .lf) .lf) (.nd undef (.nd undef .lf .lf) .lf)) (.nd undef (.nd undef (.nd undef .lf .lf) .lf) (.nd undef .lf .lf))) (.nd undef (.nd undef (.nd undef (.nd undef .lf .lf) .lf) (.nd undef (.nd undef .lf .lf) .lf)) (.nd undef (.nd undef (.nd undef .lf .lf) .lf) (.nd undef .lf .lf)))) (.nd undef (.nd undef (.nd undef (.nd undef (.nd undef .lf .lf) .lf) (.nd undef (.nd undef .lf .lf) .lf)) (.nd undef (.nd undef (.nd undef .lf .lf) .lf) (.nd undef .lf .lf))) (.nd undef (.nd undef (.nd undef (.nd undef .lf .lf) .lf) (.nd undef (.nd undef .lf .lf) .lf)) (.nd undef (.nd undef (.nd undef .lf .lf) .lf) (.nd undef .lf .lf)))))
def i47 : ST := (.nd undef (.nd undef (.nd undef (.nd undef (.nd undef (.nd undef .lf .lf) .lf) (.nd undef (.nd undef .lf .lf) .lf)) (.nd undef (.nd undef (.nd undef .lf .lf) .lf) (.nd undef (.nd undef .lf .lf) .lf))) (.nd undef (.nd undef (.nd undef (.nd undef .lf .lf) .lf) (.nd undef (.nd undef .lf .lf) .lf)) (.nd undef (.nd undef (.nd undef .lf .lf) .lf) (.nd undef (.nd undef .lf .lf) .lf)))) (.nd undef (.nd undef (.nd undef (.nd undef (.nd undef .lf .lf) .lf) (.nd undef (.nd undef .lf .lf) .lf)) (.nd undef (.nd undef (.nd undef .lf .lf) .lf) (.nd undef (.nd undef .lf .lf) .lf))) (.nd undef (.nd undef (.nd undef (.nd undef .lf .lf) .lf) (.nd undef (.nd undef .lf .lf) .lf)) (.nd undef (.nd undef (.nd undef .lf .lf) .lf) (.nd undef (.nd undef .lf .lf) .lf)))))
def i55 : ST := (.nd undef (.nd undef (.nd undef (.nd undef (.nd undef (.nd undef .lf .lf) (.nd undef .lf .lf)) (.nd undef (.nd undef .lf .lf) .lf)) (.nd undef (.nd undef (.nd undef .lf .lf) (.nd undef .lf .lf)) (.nd undef (.nd undef .lf .lf) .lf))) (.nd undef (.nd undef (.nd undef (.nd undef .lf .lf) (.nd undef .lf .lf)) (.nd undef (.nd undef .lf .lf) .lf)) (.nd undef (.nd undef (.nd undef .lf .lf) (.nd undef .lf .lf)) (.nd undef (.nd undef .lf .lf) .lf)))) (.nd undef (.nd undef (.nd undef (.nd undef (.nd undef .lf .lf) (.nd undef .lf .lf)) (.nd undef (.nd undef .lf .lf) .lf)) (.nd undef (.nd undef (.nd undef .lf .lf) (.nd undef .lf .lf)) (.nd undef (.nd undef .lf .lf) .lf))) (.nd undef (.nd undef (.nd undef (.nd undef .lf .lf) (.nd undef .lf .lf)) (.nd undef (.nd undef .lf .lf) .lf)) (.nd undef (.nd undef (.nd undef .lf .lf) (.nd undef .lf .lf)) (.nd undef (.nd undef .lf .lf) .lf)))))
def i57 : ST := (.nd undef (.nd undef (.nd undef (.nd undef (.nd undef (.nd undef .lf .lf) (.nd undef .lf .lf)) (.nd undef (.nd undef .lf .lf) (.nd undef .lf .lf))) (.nd undef (.nd undef (.nd undef .lf .lf) (.nd undef .lf .lf)) (.nd undef (.nd undef .lf .lf) .lf))) (.nd undef (.nd undef (.nd undef (.nd undef .lf .lf) (.nd undef .lf .lf)) (.nd undef (.nd undef .lf .lf) .lf)) (.nd undef (.nd undef (.nd undef .lf .lf) (.nd undef .lf .lf)) (.nd undef (.nd undef .lf .lf) .lf)))) (.nd undef (.nd undef (.nd undef (.nd undef (.nd undef .lf .lf) (.nd undef .lf .lf)) (.nd undef (.nd undef .lf .lf) (.nd undef .lf .lf))) (.nd undef (.nd undef (.nd undef .lf .lf) (.nd undef .lf .lf)) (.nd undef (.nd undef .lf .lf) .lf))) (.nd undef (.nd undef (.nd undef (.nd undef .lf .lf) (.nd undef .lf .lf)) (.nd undef (.nd undef .lf .lf) .lf)) (.nd undef (.nd undef (.nd undef .lf .lf) (.nd undef .lf .lf)) (.nd undef (.nd undef .lf .lf) .lf)))))
def i60 : ST := (.nd undef (.nd undef (.nd undef (.nd undef (.nd undef (.nd undef .lf .lf) (.nd undef .lf .lf)) (.nd undef (.nd undef .lf .lf) (.nd undef .lf .lf))) (.nd undef (.nd undef (.nd undef .lf .lf) (.nd undef .lf .lf)) (.nd undef (.nd undef .lf .lf) (.nd undef .lf .lf)))) (.nd undef (.nd undef (.nd undef (.nd undef .lf .lf) (.nd undef .lf .lf)) (.nd undef (.nd undef .lf .lf) (.nd undef .lf .lf))) (.nd undef (.nd undef (.nd undef .lf .lf) (.nd undef .lf .lf)) (.nd undef (.nd undef .lf .lf) .lf)))) (.nd undef (.nd undef (.nd undef (.nd undef (.nd undef .lf .lf) (.nd undef .lf .lf)) (.nd undef (.nd undef .lf .lf) (.nd undef .lf .lf))) (.nd undef (.nd undef (.nd undef .lf .lf) (.nd undef .lf .lf)) (.nd undef (.nd undef .lf .lf) .lf))) (.nd undef (.nd undef (.nd undef (.nd undef .lf .lf) (.nd undef .lf .lf)) (.nd undef (.nd undef .lf .lf) (.nd undef .lf .lf))) (.nd undef (.nd undef (.nd undef .lf .lf) (.nd undef .lf .lf)) (.nd undef (.nd undef .lf .lf) .lf)))))
def i72 : ST := (.nd undef (.nd undef (.nd undef (.nd undef (.nd undef (.nd undef (.nd undef .lf .lf) .lf) (.nd undef .lf .lf)) (.nd undef (.nd undef (.nd undef .lf .lf) .lf) (.nd undef .lf .lf))) (.nd undef (.nd undef (.nd undef (.nd undef .lf .lf) .lf) (.nd undef .lf .lf)) (.nd undef (.nd undef .lf .lf) (.nd undef .lf .lf)))) (.nd undef (.nd undef (.nd undef (.nd undef (.nd undef .lf .lf) .lf) (.nd undef .lf .lf)) (.nd undef (.nd undef .lf .lf) (.nd undef .lf .lf))) (.nd undef (.nd undef (.nd undef (.nd undef .lf .lf) .lf) (.nd undef .lf .lf)) (.nd undef (.nd undef .lf .lf) (.nd undef .lf .lf))))) (.nd undef (.nd undef (.nd undef (.nd undef (.nd undef (.nd undef .lf .lf) .lf) (.nd undef .lf .lf)) (.nd undef (.nd undef .lf .lf) (.nd undef .lf .lf))) (.nd undef (.nd undef (.nd undef (.nd undef .lf .lf) .lf) (.nd undef .lf .lf)) (.nd undef (.nd undef .lf .lf) (.nd undef .lf .lf)))) (.nd undef (.nd undef (.nd undef (.nd undef (.nd undef .lf .lf) .lf) (.nd undef .lf .lf)) (.nd undef (.nd undef .lf .lf) (.nd undef .lf .lf))) (.nd undef (.nd undef (.nd undef (.nd undef .lf .lf) .lf) (.nd undef .lf .lf)) (.nd undef (.nd undef .lf .lf) (.nd undef .lf .lf))))))
def i76 : ST := (.nd undef (.nd undef (.nd undef (.nd undef (.nd undef (.nd undef (.nd undef .lf .lf) .lf) (.nd undef .lf .lf)) (.nd undef (.nd undef (.nd undef .lf .lf) .lf) (.nd undef .lf .lf))) (.nd undef (.nd undef (.nd undef (.nd undef .lf .lf) .lf) (.nd undef .lf .lf)) (.nd undef (.nd undef (.nd undef .lf .lf) .lf) (.nd undef .lf .lf)))) (.nd undef (.nd undef (.nd undef (.nd undef (.nd undef .lf .lf) .lf) (.nd undef .lf .lf)) (.nd undef (.nd undef (.nd undef .lf .lf) .lf) (.nd undef .lf .lf))) (.nd undef (.nd undef (.nd undef (.nd undef .lf .lf) .lf) (.nd undef .lf .lf)) (.nd undef (.nd undef .lf .lf) (.nd undef .lf .lf))))) (.nd undef (.nd undef (.nd undef (.nd undef (.nd undef (.nd undef .lf .lf) .lf) (.nd undef .lf .lf)) (.nd undef (.nd undef (.nd undef .lf .lf) .lf) (.nd undef .lf .lf))) (.nd undef (.nd undef (.nd undef (.nd undef .lf .lf) .lf) (.nd undef .lf .lf)) (.nd undef (.nd undef .lf .lf) (.nd undef .lf .lf)))) (.nd undef (.nd undef (.nd undef (.nd undef (.nd undef .lf .lf) .lf) (.nd undef .lf .lf)) (.nd undef (.nd undef (.nd undef .lf .lf) .lf) (.nd undef .lf .lf))) (.nd undef (.nd undef (.nd undef (.nd undef .lf .lf) .lf) (.nd undef .lf .lf)) (.nd undef (.nd undef .lf .lf) (.nd undef .lf .lf))))))
def i90 : ST := (.nd undef (.nd undef (.nd undef (.nd undef (.nd undef (.nd undef (.nd undef .lf .lf) .lf) (.nd undef (.nd undef .lf .lf) .lf)) (.nd undef (.nd undef (.nd undef .lf .lf) .lf) (.nd undef (.nd undef .lf .lf) .lf))) (.nd undef (.nd undef (.nd undef (.nd undef .lf .lf) .lf) (.nd undef (.nd undef .lf .lf) .lf)) (.nd undef (.nd undef (.nd undef .lf .lf) .lf) (.nd undef .lf .lf)))) (.nd undef (.nd undef (.nd undef (.nd undef (.nd undef .lf .lf) .lf) (.nd undef (.nd undef .lf .lf) .lf)) (.nd undef (.nd undef (.nd undef .lf .lf) .lf) (.nd undef (.nd undef .lf .lf) .lf))) (.nd undef (.nd undef (.nd undef (.nd undef .lf .lf) .lf) (.nd undef (.nd undef .lf .lf) .lf)) (.nd undef (.nd undef (.nd undef .lf .lf) .lf) (.nd undef .lf .lf))))) (.nd undef (.nd undef (.nd undef (.nd undef (.nd undef (.nd undef .lf .lf) .lf) (.nd undef (.nd undef .lf .lf) .lf)) (.nd undef (.nd undef (.nd undef .lf .lf) .lf) (.nd undef (.nd undef .lf .lf) .lf))) (.nd undef (.nd undef (.nd undef (.nd undef .lf .lf) .lf) (.nd undef (.nd undef .lf .lf) .lf)) (.nd undef (.nd undef (.nd undef .lf .lf) .lf) (.nd undef .lf .lf)))) (.nd undef (.nd undef (.nd undef (.nd undef (.nd undef .lf .lf) .lf) (.nd undef (.nd undef .lf .lf) .lf)) (.nd undef (.nd undef (.nd undef .lf .lf) .lf) (.nd undef .lf .lf))) (.nd undef (.nd undef (.nd undef (.nd undef .lf .lf) .lf) (.nd undef (.nd undef .lf .lf) .lf)) (.nd undef (.nd undef (.nd undef .lf .lf) .lf) (.nd undef .lf .lf))))))
def i92 : ST := (.nd undef (.nd undef (.nd undef (.nd undef (.nd undef (.nd undef (.nd undef .lf .lf) .lf) (.nd undef (.nd undef .lf .lf) .lf)) (.nd undef (.nd undef (.nd undef .lf .lf) .lf) (.nd undef (.nd undef .lf .lf) .lf))) (.nd undef (.nd undef (.nd undef (.nd undef .lf .lf) .lf) (.nd undef (.nd undef .lf .lf) .lf)) (.nd undef (.nd undef (.nd undef .lf .lf) .lf) (.nd undef (.nd undef .lf .lf) .lf)))) (.nd undef (.nd undef (.nd undef (.nd undef (.nd undef .lf .lf) .lf) (.nd undef (.nd undef .lf .lf) .lf)) (.nd undef (.nd undef (.nd undef .lf .lf) .lf) (.nd undef (.nd undef .lf .lf) .lf))) (.nd undef (.nd undef (.nd undef (.nd undef .lf .lf) .lf) (.nd undef (.nd undef .lf .lf) .lf)) (.nd undef (.nd undef (.nd undef .lf .lf) .lf) (.nd undef .lf .lf))))) (.nd undef (.nd undef (.nd undef (.nd undef (.nd undef (.nd undef .lf .lf) .lf) (.nd undef (.nd undef .lf .lf) .lf)) (.nd undef (.nd undef (.nd undef .lf .lf) .lf) (.nd undef (.nd undef .lf .lf) .lf))) (.nd undef (.nd undef (.nd undef (.nd undef .lf .lf) .lf) (.nd undef (.nd undef .lf .lf) .lf)) (.nd undef (.nd undef (.nd undef .lf .lf) .lf) (.nd undef .lf .lf)))) (.nd undef (.nd undef (.nd undef (.nd undef (.nd undef .lf .lf) .lf) (.nd undef (.nd undef .lf .lf) .lf)) (.nd undef (.nd undef (.nd undef .lf .lf) .lf) (.nd undef (.nd undef .lf .lf) .lf))) (.nd undef (.nd undef (.nd undef (.nd undef .lf .lf) .lf) (.nd undef (.nd undef .lf .lf) .lf)) (.nd undef (.nd undef (.nd undef .lf .lf) .lf) (.nd undef .lf .lf))))))
def i124 : ST := (.nd undef (.nd undef (.nd undef (.nd undef (.nd undef (.nd undef (.nd undef .lf .lf) (.nd undef .lf .lf)) (.nd undef (.nd undef .lf .lf) (.nd undef .lf .lf))) (.nd undef (.nd undef (.nd undef .lf .lf) (.nd undef .lf .lf)) (.nd undef (.nd undef .lf .lf) (.nd undef .lf .lf)))) (.nd undef (.nd undef (.nd undef (.nd undef .lf .lf) (.nd undef .lf .lf)) (.nd undef (.nd undef .lf .lf) (.nd undef .lf .lf))) (.nd undef (.nd undef (.nd undef .lf .lf) (.nd undef .lf .lf)) (.nd undef (.nd undef .lf .lf) (.nd undef .lf .lf))))) (.nd undef (.nd undef (.nd undef (.nd undef (.nd undef .lf .lf) (.nd undef .lf .lf)) (.nd undef (.nd undef .lf .lf) (.nd undef .lf .lf))) (.nd undef (.nd undef (.nd undef .lf .lf) (.nd undef .lf .lf)) (.nd undef (.nd undef .lf .lf) (.nd undef .lf .lf)))) (.nd undef (.nd undef (.nd undef (.nd undef .lf .lf) (.nd undef .lf .lf)) (.nd undef (.nd undef .lf .lf) (.nd undef .lf .lf))) (.nd undef (.nd undef (.nd undef .lf .lf) (.nd undef .lf .lf)) (.nd undef (.nd undef .lf .lf) .lf))))) (.nd undef (.nd undef (.nd undef (.nd undef (.nd undef (.nd undef .lf .lf) (.nd undef .lf .lf)) (.nd undef (.nd undef .lf .lf) (.nd undef .lf .lf))) (.nd undef (.nd undef (.nd undef .lf .lf) (.nd undef .lf .lf)) (.nd undef (.nd undef .lf .lf) (.nd undef .lf .lf)))) (.nd undef (.nd undef (.nd undef (.nd undef .lf .lf) (.nd undef .lf .lf)) (.nd undef (.nd undef .lf .lf) (.nd undef .lf .lf))) (.nd undef (.nd undef (.nd undef .lf .lf) (.nd undef .lf .lf)) (.nd undef (.nd undef .lf .lf) .lf)))) (.nd undef (.nd undef (.nd undef (.nd undef (.nd undef .lf .lf) (.nd undef .lf .lf)) (.nd undef (.nd undef .lf .lf) (.nd undef .lf .lf))) (.nd undef (.nd undef (.nd undef .lf .lf) (.nd undef .lf .lf)) (.nd undef (.nd undef .lf .lf) (.nd undef .lf .lf)))) (.nd undef (.nd undef (.nd undef (.nd undef .lf .lf) (.nd undef .lf .lf)) (.nd undef (.nd undef .lf .lf) (.nd undef .lf .lf))) (.nd undef (.nd undef (.nd undef .lf .lf) (.nd undef .lf .lf)) (.nd undef (.nd undef .lf .lf) .lf))))))
def a6 : AFunc := { params := [p0, p1], init := i124, results := [.tmp p4], body := (.seq (.reg [⟨(some p2), none, .box (.t p0)⟩, ⟨(some p4), none, .mov (.c (.bool false))⟩] []) (.kill [p0, p4] (.seq (.reg [⟨(some p15), none, .ld (some 3) (.t p2)⟩, ⟨(some p16), none, .call (.c (.func (.func 15) #[] #[])) [(.t p15), (.c (.int .i64 7))]⟩, ⟨(some p5), none, .zero [(.slice none 0 0), (.slice none 0 0), (.slice none 0 0)]⟩, ⟨none, none, .st 3 (.t p5) (.t p16)⟩] []) (.kill [p2, p15, p16] (.seq (.reg [⟨(some p17), none, .ld (some 3) (.t p5)⟩, ⟨(some p18), none, .call (.c (.func (.func 16) #[] #[])) [(.t p17)]⟩, ⟨(some p6), none, .zero [(.slice none 0 0), (.slice none 0 0), (.slice none 0 0)]⟩, ⟨none, none, .st 3 (.t p6) (.t p18)⟩] []) (.kill [p17, p18] (.seq (.reg [⟨(some p19), none, .fad 2 (.t p5)⟩, ⟨(some p20), none, .ld none (.t p19)⟩, ⟨(some p21), none, .len 1 (.t p20)⟩, ⟨(some p7), none, .mov (.t p21)⟩] []) (.kill [p19, p20, p21] (.seq (.reg [⟨(some p23), none, .ld (some 3) (.t p6)⟩, ⟨(some p24), none, .mov (.t p7)⟩, ⟨(some p25), none, .bin .shl (.c (.int .i64 1)) (.t p24)⟩, ⟨(some p26), none, .bin .sub (.t p25) (.c (.int .i64 1))⟩, ⟨(some p27), none, .call (.c (.func (.func 31) #[] #[])) [(.t p23), (.t p26)]⟩, ⟨(some p22), none, .mov (.t p27)⟩, ⟨(some p28), none, .ext 0 (.t p22)⟩, ⟨(some p29), none, .ext 1 (.t p22)⟩, ⟨(some p8), none, .mov (.t p28)⟩, ⟨(some p9), none, .mov (.t p29)⟩] []) (.kill [p22, p23, p24, p25, p26, p27, p28, p29] (.seq (.seq (.reg [⟨(some p30), none, .mov (.t p9)⟩, ⟨(some p31), none, .bin .neq (.t p30) (.c (.int .i64 0))⟩, ⟨(some p32), none, .mov (.t p31)⟩, ⟨(some p33), (some (p32, false)), .mov (.t p8)⟩, ⟨(some p34), (some (p32, false)), .bin .lss (.t p33) (.c (.int .i64 0))⟩, ⟨(some p35), none, .pick (.t p32) (.c (.bool true)) (.t p34)⟩, ⟨(some p36), none, .mov (.t p35)⟩, ⟨(some p37), (some (p36, false)), .mov (.t p8)⟩, ⟨(some p38), (some (p36, false)), .bin .gtr (.t p37) (.c (.int .i64 10000))⟩, ⟨(some p39), none, .pick (.t p36) (.c (.bool true)) (.t p38)⟩] []) (.kill [p9, p30, p31, p32, p33, p34, p35, p36, p37, p38] (.cond (.t p39) (.kill [p39] (.seq (.reg [⟨(some p4), none, .mov (.c (.bool false))⟩] []) .ret)) .skip))) (.kill [p39] (.seq (.reg [⟨(some p40), none, .mov (.t p1)⟩, ⟨(some p41), none, .cvt .u64 (.t p40)⟩, ⟨(some p42), none, .mov (.t p8)⟩, ⟨(some p43), none, .bin .add (.t p42) (.c (.int .i64 2))⟩, ⟨(some p44), none, .min (.t p43) [(.c (.int .i64 10001))]⟩, ⟨(some p45), none, .cvt .u64 (.t p44)⟩, ⟨(some p46), none, .bin .rem (.t p41) (.t p45)⟩, ⟨(some p47), none, .cvt .i64 (.t p46)⟩, ⟨(some p1), none, .mov (.t p47)⟩] []) (.kill [p40, p41, p42, p43, p44, p45, p46, p47] (.seq (.reg [⟨(some p49), none, .ld (some 3) (.t p6)⟩, ⟨(some p50), none, .mov (.t p1)⟩, ⟨(some p51), none, .call (.c (.func (.func 28) #[] #[])) [(.t p49), (.t p50)]⟩, ⟨(some p48), none, .mov (.t p51)⟩, ⟨(some p52), none, .ext 0 (.t p48)⟩, ⟨(some p53), none, .ext 1 (.t p48)⟩, ⟨(some p10), none, .mov (.t p52)⟩, ⟨(some p11), none, .mov (.t p53)⟩] []) (.kill [p6, p48, p49, p50, p51, p52, p53] (.seq (.seq (.reg [⟨(some p54), none, .mov (.t p11)⟩, ⟨(some p55), none, .bin .neq (.t p54) (.c (.int .i64 0))⟩, ⟨(some p56), none, .mov (.t p55)⟩, ⟨(some p57), (some (p56, false)), .mov (.t p10)⟩, ⟨(some p58), (some (p56, false)), .mov (.t p7)⟩, ⟨(some p59), (some (p56, false)), .call (.c (.func (.func 32) #[] #[])) [(.t p57), (.t p58)]⟩, ⟨(some p60), (some (p56, false)), .un .not (.t p59)⟩, ⟨(some p61), none, .pick (.t p56) (.c (.bool true)) (.t p60)⟩] []) (.kill [p11, p54, p55, p56, p57, p58, p59, p60] (.cond (.t p61) (.kill [p61] (.seq (.reg [⟨(some p4), none, .mov (.c (.bool false))⟩] []) .ret)) .skip))) (.kill [p61] (.seq (.reg [⟨(some p12), none, .mov (.c (.int .i64 0))⟩] []) (.seq (.seq (.reg [⟨(some p62), none, .mov (.t p8)⟩, ⟨(some p63), none, .mov (.t p1)⟩, ⟨(some p64), none, .bin .gtr (.t p62) (.t p63)⟩] []) (.kill [p1, p8, p62, p63] (.cond (.t p64) (.kill [p64] (.reg [⟨(some p12), none, .mov (.c (.int .i64 1))⟩] [])) .skip))) (.kill [p64] (.seq (.seq (.reg [⟨(some p65), none, .mov (.t p10)⟩, ⟨(some p66), none, .mov (.t p7)⟩, ⟨(some p67), none, .bin .shl (.c (.int .i64 1)) (.t p66)⟩, ⟨(some p68), none, .bin .sub (.t p67) (.c (.int .i64 1))⟩, ⟨(some p69), none, .mov (.t p12)⟩, ⟨(some p70), none, .call (.c (.func (.func 33) #[] #[])) [(.t p65), (.t p68), (.t p69)]⟩, ⟨(some p71), none, .bin .neq (.t p70) (.c (.int .i64 0))⟩] []) (.kill [p12, p65, p66, p67, p68, p69, p70] (.cond (.t p71) (.kill [p71] (.seq (.reg [⟨(some p4), none, .mov (.c (.bool false))⟩] []) .ret)) .skip))) (.kill [p71] (.seq (.seq (.reg [⟨(some p13), none, .mov (.c (.int .i64 0))⟩] []) (.block 0 (.loop (.seq (.seq (.reg [⟨(some p72), none, .mov (.t p13)⟩, ⟨(some p73), none, .mov (.t p7)⟩, ⟨(some p74), none, .bin .lss (.t p72) (.t p73)⟩] []) (.kill [p72, p73] (.cond (.t p74) .skip (.exit 0)))) (.kill [p74] (.seq (.block 1 (.seq (.reg [⟨(some p14), none, .mov (.c (.int .i64 0))⟩] []) (.block 2 (.loop (.seq (.seq (.reg [⟨(some p77), none, .mov (.t p14)⟩, ⟨(some p78), none, .mov (.t p7)⟩, ⟨(some p79), none, .bin .lss (.t p77) (.t p78)⟩] []) (.kill [p77, p78] (.cond (.t p79) .skip (.exit 2)))) (.kill [p79] (.seq (.block 3 (.seq (.reg [⟨(some p82), none, .mov (.t p10)⟩, ⟨(some p83), none, .mov (.t p13)⟩, ⟨(some p84), none, .ias 2 (.t p82) (.t p83)⟩, ⟨(some p85), none, .iad 2 1 (.t p84) (.c (.int .i64 0))⟩, ⟨(some p86), none, .ld none (.t p85)⟩, ⟨(some p87), none, .bin .lss (.t p86) (.c (.int .i64 0))⟩, ⟨(some p88), none, .mov (.t p87)⟩, ⟨(some p89), (some (p88, false)), .ld (some 3) (.t p5)⟩, ⟨(some p90), (some (p88, false)), .mov (.t p13)⟩, ⟨(some p91), (some (p88, false)), .call (.c (.func (.func 34) #[] #[])) [(.t p89), (.t p90)]⟩, ⟨(some p92), (some (p88, false)), .ld (some 3) (.t p5)⟩, ⟨(some p93), (some (p88, false)), .mov (.t p14)⟩, ⟨(some p94), (some (p88, false)), .call (.c (.func (.func 34) #[] #[])) [(.t p92), (.t p93)]⟩, ⟨(some p95), (some (p88, false)), .bin .andNot (.t p91) (.t p94)⟩, ⟨(some p96), (some (p88, false)), .bin .eql (.t p95) (.c (.int .i64 0))⟩, ⟨(some p97), (some (p88, false)), .mov (.t p96)⟩, ⟨(some p98), (some (p97, true)), .mov (.t p10)⟩, ⟨(some p99), (some (p97, true)), .mov (.t p13)⟩, ⟨(some p100), (some (p97, true)), .ias 2 (.t p98) (.t p99)⟩, ⟨(some p101), (some (p97, true)), .iad 2 1 (.t p100) (.c (.int .i64 0))⟩, ⟨(some p102), (some (p97, true)), .ld none (.t p101)⟩, ⟨(some p103), (some (p97, true)), .mov (.t p10)⟩, ⟨(some p104), (some (p97, true)), .mov (.t p14)⟩, ⟨(some p105), (some (p97, true)), .ias 2 (.t p103) (.t p104)⟩, ⟨(some p106), (some (p97, true)), .iad 2 1 (.t p105) (.c (.int .i64 1))⟩, ⟨(some p107), (some (p97, true)), .ld none (.t p106)⟩, ⟨(some p108), (some (p97, true)), .bin .mul (.t p102) (.t p107)⟩, ⟨(some p109), (some (p97, true)), .mov (.t p10)⟩, ⟨(some p110), (some (p97, true)), .mov (.t p14)⟩, ⟨(some p111), (some (p97, true)), .ias 2 (.t p109) (.t p110)⟩, ⟨(some p112), (some (p97, true)), .iad 2 1 (.t p111) (.c (.int .i64 0))⟩, ⟨(some p113), (some (p97, true)), .ld none (.t p112)⟩, ⟨(some p114), (some (p97, true)), .mov (.t p10)⟩, ⟨(some p115), (some (p97, true)), .mov (.t p13)⟩, ⟨(some p116), (some (p97, true)), .ias 2 (.t p114) (.t p115)⟩, ⟨(some p117), (some (p97, true)), .iad 2 1 (.t p116) (.c (.int .i64 1))⟩, ⟨(some p118), (some (p97, true)), .ld none (.t p117)⟩, ⟨(some p119), (some (p97, true)), .bin .mul (.t p113) (.t p118)⟩, ⟨(some p120), (some (p97, true)), .bin .gtr (.t p108) (.t p119)⟩, ⟨(some p121), (some (p88, false)), .pick (.t p97) (.t p120) (.c (.bool false))⟩, ⟨(some p122), none, .pick (.t p88) (.c (.bool true)) (.t p121)⟩] [(10, [9])]) (.kill [p82, p83, p84, p85, p86, p87, p88, p89, p90, p91, p92, p93, p94, p95, p96, p97, p98, p99, p100, p101, p102, p103, p104, p105, p106, p107, p108, p109, p110, p111, p112, p113, p114, p115, p116, p117, p118, p119, p120, p121] (.cond (.t p122) (.kill [p122] (.seq (.reg [⟨(some p4), none, .mov (.c (.bool false))⟩] []) .ret)) .skip)))) (.kill [p122] (.reg [⟨(some p80), none, .mov (.t p14)⟩, ⟨(some p81), none, .bin .add (.t p80) (.c (.int .i64 1))⟩, ⟨(some p14), none, .mov (.t p81)⟩] []))))))))) (.kill [p14, p79] (.reg [⟨(some p75), none, .mov (.t p13)⟩, ⟨(some p76), none, .bin .add (.t p75) (.c (.int .i64 1))⟩, ⟨(some p13), none, .mov (.t p76)⟩] [])))))))) (.kill [p5, p7, p10, p13, p74, p79] (.seq (.reg [⟨(some p123), none, .call (.c (.func (.func 24) #[] #[])) []⟩, ⟨(some p4), none, .mov (.t p123)⟩] []) .ret)))))))))))))))))))))))))) }
def a15 : AFunc := { params := [p0, p1], init := i92, results := [.cell (some 3) p4], body := (.seq (.reg [⟨(some p2), none, .box (.t p0)⟩, ⟨(some p4), none, .zero [(.slice none 0 0), (.slice none 0 0), (.slice none 0 0)]⟩] []) (.kill [p0] (.seq (.reg [⟨(some p5), none, .zero [(.slice none 0 0), (.slice none 0 0), (.slice none 0 0)]⟩] []) (.seq (.reg [⟨(some p14), none, .fad 0 (.t p2)⟩, ⟨(some p15), none, .ld none (.t p14)⟩, ⟨(some p16), none, .len 1 (.t p15)⟩, ⟨(some p17), none, .min (.t p16) [(.c (.int .i64 10))]⟩, ⟨(some p18), none, .max (.c (.int .i64 1)) [(.t p17)]⟩, ⟨(some p6), none, .mov (.t p18)⟩] []) (.kill [p14, p15, p16, p17, p18] (.seq (.seq (.reg [⟨(some p7), none, .mov (.c (.int .i64 0))⟩] []) (.block 0 (.loop (.seq (.seq (.reg [⟨(some p19), none, .mov (.t p7)⟩, ⟨(some p20), none, .mov (.t p6)⟩, ⟨(some p21), none, .bin .lss (.t p19) (.t p20)⟩] []) (.kill [p19, p20] (.cond (.t p21) .skip (.exit 0)))) (.kill [p21] (.seq (.block 1 (.seq (.reg [⟨(some p8), none, .mov (.c (.int .i64 (-1)))⟩, ⟨(some p9), none, .mov (.c (.int .i64 1))⟩] []) (.seq (.seq (.reg [⟨(some p24), none, .mov (.t p7)⟩, ⟨(some p25), none, .bin .gtr (.t p24) (.c (.int .i64 0))⟩] []) (.kill [p24] (.cond (.t p25) (.kill [p25] (.reg [⟨(some p26), none, .fad 0 (.t p2)⟩, ⟨(some p27), none, .ld none (.t p26)⟩, ⟨(some p28), none, .mov (.t p7)⟩, ⟨(some p29), none, .ias 1 (.t p27) (.t p28)⟩, ⟨(some p30), none, .ld none (.t p29)⟩, ⟨(some p31), none, .cvt .u64 (.t p30)⟩, ⟨(some p32), none, .mov (.t p7)⟩, ⟨(some p33), none, .cvt .u64 (.t p32)⟩, ⟨(some p34), none, .bin .rem (.t p31) (.t p33)⟩, ⟨(some p35), none, .cvt .i64 (.t p34)⟩, ⟨(some p8), none, .mov (.t p35)⟩] [])) .skip))) (.kill [p25, p26, p27, p28, p29, p30, p31, p32, p33, p34, p35] (.seq (.seq (.reg [⟨(some p36), none, .mov (.t p7)⟩, ⟨(some p37), none, .fad 1 (.t p2)⟩, ⟨(some p38), none, .ld none (.t p37)⟩, ⟨(some p39), none, .len 1 (.t p38)⟩, ⟨(some p40), none, .bin .lss (.t p36) (.t p39)⟩] []) (.kill [p36, p37, p38, p39] (.cond (.t p40) (.kill [p40] (.reg [⟨(some p41), none, .fad 1 (.t p2)⟩, ⟨(some p42), none, .ld none (.t p41)⟩, ⟨(some p43), none, .mov (.t p7)⟩, ⟨(some p44), none, .ias 1 (.t p42) (.t p43)⟩, ⟨(some p45), none, .ld none (.t p44)⟩, ⟨(some p46), none, .cvt .u64 (.t p45)⟩, ⟨(some p47), none, .bin .rem (.t p46) (.c (.int .u64 1001))⟩, ⟨(some p48), none, .cvt .i64 (.t p47)⟩, ⟨(some p9), none, .mov (.t p48)⟩] [])) .skip))) (.kill [p40, p41, p42, p43, p44, p45, p46, p47, p48] (.seq (.reg [⟨(some p49), none, .fad 0 (.t p5)⟩, ⟨(some p50), none, .ld none (.t p49)⟩, ⟨(some p51), none, .fad 1 (.t p5)⟩, ⟨(some p52), none, .ld none (.t p51)⟩, ⟨(some p10), none, .mov (.t p50)⟩, ⟨(some p11), none, .mov (.t p52)⟩] []) (.kill [p49, p50, p51, p52] (.seq (.reg [⟨(some p53), none, .mov (.t p10)⟩, ⟨(some p54), none, .mov (.t p8)⟩, ⟨(some p55), none, .bslice 1 1 [(.int .i64 0)] [(0, 1, (.t p54))]⟩, ⟨(some p56), none, .app 1 (.t p53) (.t p55)⟩, ⟨(some p57), none, .fad 0 (.t p5)⟩, ⟨none, none, .st 1 (.t p57) (.t p56)⟩] []) (.kill [p8, p10, p53, p54, p55, p56, p57] (.reg [⟨(some p58), none, .mov (.t p11)⟩, ⟨(some p59), none, .mov (.t p9)⟩, ⟨(some p60), none, .bslice 1 1 [(.int .i64 0)] [(0, 1, (.t p59))]⟩, ⟨(some p61), none, .app 1 (.t p58) (.t p60)⟩, ⟨(some p62), none, .fad 1 (.t p5)⟩, ⟨none, none, .st 1 (.t p62) (.t p61)⟩] []))))))))))) (.kill [p9, p11, p58, p59, p60, p61, p62] (.reg [⟨(some p22), none, .mov (.t p7)⟩, ⟨(some p23), none, .bin .add (.t p22) (.c (.int .i64 1))⟩, ⟨(some p7), none, .mov (.t p23)⟩] [])))))))) (.kill [p7, p21] (.seq (.seq (.reg [⟨(some p12), none, .mov (.c (.int .i64 0))⟩] []) (.block 2 (.loop (.seq (.seq (.reg [⟨(some p63), none, .mov (.t p12)⟩, ⟨(some p64), none, .fad 2 (.t p2)⟩, ⟨(some p65), none, .ld none (.t p64)⟩, ⟨(some p66), none, .len 1 (.t p65)⟩, ⟨(some p67), none, .bin .lss (.t p63) (.t p66)⟩, ⟨(some p68), none, .mov (.t p67)⟩, ⟨(some p69), (some (p68, true)), .mov (.t p12)⟩, ⟨(some p70), (some (p68, true)), .mov (.t p1)⟩, ⟨(some p71), (some (p68, true)), .bin .lss (.t p69) (.t p70)⟩, ⟨(some p72), none, .pick (.t p68) (.t p71) (.c (.bool false))⟩] []) (.kill [p63, p64, p65, p66, p67, p68, p69, p70, p71] (.cond (.t p72) .skip (.exit 2)))) (.kill [p72] (.seq (.block 3 (.seq (.reg [⟨(some p75), none, .fad 2 (.t p5)⟩, ⟨(some p76), none, .ld none (.t p75)⟩, ⟨(some p13), none, .mov (.t p76)⟩] []) (.kill [p75, p76] (.reg [⟨(some p77), none, .mov (.t p13)⟩, ⟨(some p78), none, .fad 2 (.t p2)⟩, ⟨(some p79), none, .ld none (.t p78)⟩, ⟨(some p80), none, .mov (.t p12)⟩, ⟨(some p81), none, .ias 1 (.t p79) (.t p80)⟩, ⟨(some p82), none, .ld none (.t p81)⟩, ⟨(some p83), none, .cvt .u64 (.t p82)⟩, ⟨(some p84), none, .mov (.t p6)⟩, ⟨(some p85), none, .cvt .u64 (.t p84)⟩, ⟨(some p86), none, .bin .rem (.t p83) (.t p85)⟩, ⟨(some p87), none, .cvt .i64 (.t p86)⟩, ⟨(some p88), none, .bslice 1 1 [(.int .i64 0)] [(0, 1, (.t p87))]⟩, ⟨(some p89), none, .app 1 (.t p77) (.t p88)⟩, ⟨(some p90), none, .fad 2 (.t p5)⟩, ⟨none, none, .st 1 (.t p90) (.t p89)⟩] [])))) (.kill [p13, p77, p78, p79, p80, p81, p82, p83, p84, p85, p86, p87, p88, p89, p90] (.reg [⟨(some p73), none, .mov (.t p12)⟩, ⟨(some p74), none, .bin .add (.t p73) (.c (.int .i64 1))⟩, ⟨(some p12), none, .mov (.t p74)⟩] [])))))))) (.kill [p1, p2, p6, p12, p72] (.seq (.reg [⟨(some p91), none, .ld (some 3) (.t p5)⟩, ⟨none, none, .st 3 (.t p4) (.t p91)⟩] []) .ret)))))))))) }
def a16 : AFunc := { params := [p0], init := i13, results := [.cell (some 3) p2], body := (.seq (.reg [⟨(some p1), none, .box (.t p0)⟩, ⟨(some p2), none, .zero [(.slice none 0 0), (.slice none 0 0), (.slice none 0 0)]⟩] []) (.kill [p0] (.seq (.reg [⟨(some p3), none, .fad 0 (.t p1)⟩, ⟨(some p4), none, .ld none (.t p3)⟩, ⟨(some p5), none, .call (.c (.func (.func 43) #[] #[])) [(.t p4), (.c (.int .i64 11))]⟩, ⟨(some p6), none, .fad 1 (.t p1)⟩, ⟨(some p7), none, .ld none (.t p6)⟩, ⟨(some p8), none, .call (.c (.func (.func 43) #[] #[])) [(.t p7), (.c (.int .i64 11))]⟩, ⟨(some p9), none, .fad 2 (.t p1)⟩, ⟨(some p10), none, .ld none (.t p9)⟩, ⟨(some p11), none, .call (.c (.func (.func 43) #[] #[])) [(.t p10), (.c (.int .i64 8))]⟩, ⟨(some p12), none, .build [(.slice none 0 0), (.slice none 0 0), (.slice none 0 0)] [(0, 1, (.t p5)), (1, 1, (.t p8)), (2, 1, (.t p11))]⟩, ⟨none, none, .st 3 (.t p2) (.t p12)⟩] [(4, [2]), (7, [2, 5])]) .ret))) }
def a18 : AFunc := { params := [p0], init := i57, results := [.tmp p2, .tmp p3], body := (.seq (.reg [⟨(some p1), none, .box (.t p0)⟩, ⟨(some p2), none, .mov (.c (.slice none 0 0))⟩, ⟨(some p3), none, .mov (.c (.int .i64 0))⟩] []) (.kill [p0, p2, p3] (.seq (.reg [⟨(some p12), none, .ld (some 3) (.t p1)⟩, ⟨(some p13), none, .call (.c (.func (.func 52) #[] #[])) [(.t p12)]⟩, ⟨(some p11), none, .mov (.t p13)⟩, ⟨(some p14), none, .ext 0 (.t p11)⟩, ⟨(some p15), none, .ext 1 (.t p11)⟩, ⟨(some p4), none, .mov (.t p14)⟩, ⟨(some p5), none, .mov (.t p15)⟩] []) (.kill [p11, p12, p13, p14, p15] (.seq (.seq (.reg [⟨(some p16), none, .mov (.t p5)⟩, ⟨(some p17), none, .bin .neq (.t p16) (.c (.int .i64 0))⟩] []) (.kill [p16] (.cond (.t p17) (.kill [p17] (.seq (.reg [⟨(some p18), none, .mov (.t p5)⟩, ⟨(some p2), none, .mov (.c (.slice none 0 0))⟩, ⟨(some p3), none, .mov (.t p18)⟩] []) .ret)) .skip))) (.kill [p17] (.seq (.reg [⟨(some p6), none, .mov (.c (.slice none 0 0))⟩] []) (.seq (.seq (.reg [⟨(some p19), none, .fad 2 (.t p1)⟩, ⟨(some p20), none, .ld none (.t p19)⟩, ⟨(some p21), none, .len 1 (.t p20)⟩, ⟨(some p22), none, .mov (.c (.int .i64 0))⟩] []) (.kill [p19, p20] (.block 0 (.loop (.seq (.reg [⟨(some p23), none, .bin .lss (.t p22) (.t p21)⟩] []) (.seq (.cond (.t p23) .skip (.exit 0)) (.kill [p23] (.seq (.block 1 (.seq (.reg [⟨(some p24), none, .mov (.t p22)⟩, ⟨(some p7), none, .mov (.t p24)⟩] []) (.kill [p24] (.seq (.reg [⟨(some p25), none, .ld (some 2) (.c (.pointer (some ⟨0, 0, none⟩)))⟩, ⟨(some p8), none, .zero [(.int .i64 0), (.int .i64 0)]⟩, ⟨none, none, .st 2 (.t p8) (.t p25)⟩] []) (.kill [p25] (.seq (.seq (.reg [⟨(some p26), none, .mov (.t p4)⟩, ⟨(some p27), none, .mov (.t p7)⟩, ⟨(some p28), none, .nilchk (.t p26)⟩, ⟨(some p29), none, .fad 3 (.t p28)⟩, ⟨(some p30), none, .iad 7 1 (.t p29) (.t p27)⟩, ⟨(some p31), none, .ld none (.t p30)⟩, ⟨(some p32), none, .call (.c (.func (.func 53) #[] #[])) [(.t p31)]⟩, ⟨(some p33), none, .len 1 (.t p32)⟩, ⟨(some p34), none, .mov (.c (.int .i64 0))⟩] []) (.kill [p7, p26, p27, p28, p29, p30, p31] (.block 2 (.loop (.seq (.reg [⟨(some p35), none, .bin .lss (.t p34) (.t p33)⟩] []) (.seq (.cond (.t p35) .skip (.exit 2)) (.kill [p35] (.seq (.block 3 (.seq (.reg [⟨(some p36), none, .ias 1 (.t p32) (.t p34)⟩, ⟨(some p37), none, .ld none (.t p36)⟩, ⟨(some p10), none, .mov (.t p37)⟩] []) (.kill [p36, p37] (.reg [⟨(some p38), none, .ld (some 2) (.t p8)⟩, ⟨(some p39), none, .fad 1 (.t p1)⟩, ⟨(some p40), none, .ld none (.t p39)⟩, ⟨(some p41), none, .mov (.t p10)⟩, ⟨(some p42), none, .ias 1 (.t p40) (.t p41)⟩, ⟨(some p43), none, .ld none (.t p42)⟩, ⟨(some p44), none, .mov (.t p4)⟩, ⟨(some p45), none, .mov (.t p10)⟩, ⟨(some p46), none, .call (.c (.func (.func 55) #[] #[])) [(.t p44), (.t p45)]⟩, ⟨(some p47), none, .build [(.int .i64 0), (.int .i64 0)] [(0, 1, (.t p43)), (1, 1, (.t p46))]⟩, ⟨(some p48), none, .call (.c (.func (.func 54) #[] #[])) [(.t p38), (.t p47)]⟩, ⟨none, none, .st 2 (.t p8) (.t p48)⟩] [(0, [10]), (2, [10]), (5, [10])])))) (.kill [p10, p38, p39, p40, p41, p42, p43, p44, p45, p46, p47, p48] (.reg [⟨(some p49), none, .bin .add (.t p34) (.c (.int .i64 1))⟩, ⟨(some p34), none, .mov (.t p49)⟩] [])))))))))) (.kill [p32, p33, p34, p35] (.reg [⟨(some p50), none, .mov (.t p6)⟩, ⟨(some p51), none, .ld (some 2) (.t p8)⟩, ⟨(some p52), none, .bslice 1 2 [(.int .i64 0), (.int .i64 0)] [(0, 2, (.t p51))]⟩, ⟨(some p53), none, .app 2 (.t p50) (.t p52)⟩, ⟨(some p6), none, .mov (.t p53)⟩] [])))))))) (.kill [p8, p50, p51, p52, p53] (.reg [⟨(some p54), none, .bin .add (.t p22) (.c (.int .i64 1))⟩, ⟨(some p22), none, .mov (.t p54)⟩] [])))))))))) (.kill [p1, p4, p21, p22, p23, p35] (.seq (.reg [⟨(some p55), none, .mov (.t p6)⟩, ⟨(some p56), none, .call (.c (.func (.func 56) #[] #[])) [(.t p55)]⟩, ⟨(some p2), none, .mov (.t p56)⟩, ⟨(some p3), none, .mov (.c (.int .i64 0))⟩] []) .ret)))))))))) }
def a19 : AFunc := { params := [p0, p1], init := i55, results := [.tmp p4, .tmp p5], body := (.seq (.reg [⟨(some p2), none, .box (.t p0)⟩, ⟨(some p4), none, .mov (.c (.slice none 0 0))⟩, ⟨(some p5), none, .mov (.c (.int .i64 0))⟩] []) (.kill [p0, p4, p5] (.seq (.reg [⟨(some p12), none, .ld (some 3) (.t p2)⟩, ⟨(some p13), none, .call (.c (.func (.func 52) #[] #[])) [(.t p12)]⟩, ⟨(some p11), none, .mov (.t p13)⟩, ⟨(some p14), none, .ext 0 (.t p11)⟩, ⟨(some p15), none, .ext 1 (.t p11)⟩, ⟨(some p6), none, .mov (.t p14)⟩, ⟨(some p7), none, .mov (.t p15)⟩] []) (.kill [p11, p12, p13, p14, p15] (.seq (.seq (.reg [⟨(some p16), none, .mov (.t p7)⟩, ⟨(some p17), none, .bin .neq (.t p16) (.c (.int .i64 0))⟩] []) (.kill [p16] (.cond (.t p17) (.kill [p17] (.seq (.reg [⟨(some p18), none, .mov (.t p7)⟩, ⟨(some p4), none, .mov (.c (.slice none 0 0))⟩, ⟨(some p5), none, .mov (.t p18)⟩] []) .ret)) .skip))) (.kill [p17] (.seq (.reg [⟨(some p8), none, .mov (.c (.int .i64 0))⟩] []) (.seq (.seq (.reg [⟨(some p19), none, .mov (.t p1)⟩, ⟨(some p20), none, .len 1 (.t p19)⟩, ⟨(some p21), none, .mov (.c (.int .i64 0))⟩] []) (.block 0 (.loop (.seq (.reg [⟨(some p22), none, .bin .lss (.t p21) (.t p20)⟩] []) (.seq (.cond (.t p22) .skip (.exit 0)) (.kill [p22] (.seq (.block 1 (.seq (.reg [⟨(some p23), none, .ias 1 (.t p19) (.t p21)⟩, ⟨(some p24), none, .ld none (.t p23)⟩, ⟨(some p10), none, .mov (.t p24)⟩] []) (.kill [p23, p24] (.seq (.seq (.reg [⟨(some p25), none, .mov (.t p10)⟩, ⟨(some p26), none, .bin .lss (.t p25) (.c (.int .i64 0))⟩, ⟨(some p27), none, .mov (.t p26)⟩, ⟨(some p28), (some (p27, false)), .mov (.t p10)⟩, ⟨(some p29), (some (p27, false)), .fad 2 (.t p2)⟩, ⟨(some p30), (some (p27, false)), .ld none (.t p29)⟩, ⟨(some p31), (some (p27, false)), .len 1 (.t p30)⟩, ⟨(some p32), (some (p27, false)), .bin .geq (.t p28) (.t p31)⟩, ⟨(some p33), none, .pick (.t p27) (.c (.bool true)) (.t p32)⟩] []) (.kill [p25, p26, p27, p28, p29, p30, p31, p32] (.cond (.t p33) (.kill [p33] (.seq (.reg [⟨(some p4), none, .mov (.c (.slice none 0 0))⟩, ⟨(some p5), none, .mov (.c (.int .i64 1))⟩] []) .ret)) .skip))) (.kill [p33] (.reg [⟨(some p34), none, .mov (.t p8)⟩, ⟨(some p35), none, .mov (.t p10)⟩, ⟨(some p36), none, .cvt .u64 (.t p35)⟩, ⟨(some p37), none, .bin .shl (.c (.int .i64 1)) (.t p36)⟩, ⟨(some p38), none, .bin .or (.t p34) (.t p37)⟩, ⟨(some p8), none, .mov (.t p38)⟩] [])))))) (.kill [p10, p34, p35, p36, p37, p38] (.reg [⟨(some p39), none, .bin .add (.t p21) (.c (.int .i64 1))⟩, ⟨(some p21), none, .mov (.t p39)⟩] []))))))))) (.kill [p19, p20, p21, p22] (.seq (.seq (.reg [⟨(some p40), none, .mov (.t p1)⟩, ⟨(some p41), none, .len 1 (.t p40)⟩, ⟨(some p42), none, .fad 2 (.t p2)⟩, ⟨(some p43), none, .ld none (.t p42)⟩, ⟨(some p44), none, .len 1 (.t p43)⟩, ⟨(some p45), none, .bin .neq (.t p41) (.t p44)⟩, ⟨(some p46), none, .mov (.t p45)⟩, ⟨(some p47), (some (p46, false)), .mov (.t p8)⟩, ⟨(some p48), (some (p46, false)), .mov (.t p6)⟩, ⟨(some p49), (some (p46, false)), .call (.c (.func (.func 57) #[] #[])) [(.t p48)]⟩, ⟨(some p50), (some (p46, false)), .bin .neq (.t p47) (.t p49)⟩, ⟨(some p51), none, .pick (.t p46) (.c (.bool true)) (.t p50)⟩] []) (.kill [p2, p8, p40, p41, p42, p43, p44, p45, p46, p47, p48, p49, p50] (.cond (.t p51) (.kill [p51] (.seq (.reg [⟨(some p4), none, .mov (.c (.slice none 0 0))⟩, ⟨(some p5), none, .mov (.c (.int .i64 1))⟩] []) .ret)) .skip))) (.kill [p51] (.seq (.reg [⟨(some p52), none, .mov (.t p6)⟩, ⟨(some p53), none, .mov (.t p1)⟩, ⟨(some p54), none, .call (.c (.func (.func 58) #[] #[])) [(.t p52), (.t p53)]⟩, ⟨(some p4), none, .mov (.t p54)⟩, ⟨(some p5), none, .mov (.c (.int .i64 0))⟩] []) .ret)))))))))))) }
def a20 : AFunc := { params := [p0, p1], init := i26, results := [.tmp p4], body := (.seq (.reg [⟨(some p4), none, .mov (.c (.bool false))⟩] []) (.kill [p4] (.seq (.seq (.reg [⟨(some p6), none, .mov (.t p0)⟩, ⟨(some p7), none, .len 1 (.t p6)⟩, ⟨(some p8), none, .mov (.t p1)⟩, ⟨(some p9), none, .len 1 (.t p8)⟩, ⟨(some p10), none, .bin .neq (.t p7) (.t p9)⟩] []) (.kill [p6, p7, p8, p9] (.cond (.t p10) (.kill [p10] (.seq (.reg [⟨(some p4), none, .mov (.c (.bool false))⟩] []) .ret)) .skip))) (.kill [p10] (.seq (.seq (.reg [⟨(some p5), none, .mov (.c (.int .i64 0))⟩] []) (.block 0 (.loop (.seq (.seq (.reg [⟨(some p11), none, .mov (.t p5)⟩, ⟨(some p12), none, .mov (.t p0)⟩, ⟨(some p13), none, .len 1 (.t p12)⟩, ⟨(some p14), none, .bin .lss (.t p11) (.t p13)⟩] []) (.kill [p11, p12, p13] (.cond (.t p14) .skip (.exit 0)))) (.kill [p14] (.seq (.block 1 (.seq (.reg [⟨(some p17), none, .mov (.t p0)⟩, ⟨(some p18), none, .mov (.t p5)⟩, ⟨(some p19), none, .ias 2 (.t p17) (.t p18)⟩, ⟨(some p20), none, .ld (some 2) (.t p19)⟩, ⟨(some p21), none, .mov (.t p1)⟩, ⟨(some p22), none, .mov (.t p5)⟩, ⟨(some p23), none, .ias 2 (.t p21) (.t p22)⟩, ⟨(some p24), none, .ld (some 2) (.t p23)⟩, ⟨(some p25), none, .eqs (.cells [.int, .int]) true (.t p20) (.t p24)⟩] []) (.kill [p17, p18, p19, p20, p21, p22, p23, p24] (.cond (.t p25) (.kill [p25] (.seq (.reg [⟨(some p4), none, .mov (.c (.bool false))⟩] []) .ret)) .skip)))) (.kill [p25] (.reg [⟨(some p15), none, .mov (.t p5)⟩, ⟨(some p16), none, .bin .add (.t p15) (.c (.int .i64 1))⟩, ⟨(some p5), none, .mov (.t p16)⟩] [])))))))) (.kill [p0, p1, p5, p14] (.seq (.reg [⟨(some p4), none, .mov (.c (.bool true))⟩] []) .ret))))))) }
def a22 : AFunc := { params := [p0, p1], init := i26, results := [.tmp p4], body := (.seq (.reg [⟨(some p4), none, .mov (.c (.bool false))⟩] []) (.kill [p4] (.seq (.seq (.reg [⟨(some p6), none, .mov (.t p0)⟩, ⟨(some p7), none, .len 1 (.t p6)⟩, ⟨(some p8), none, .mov (.t p1)⟩, ⟨(some p9), none, .len 1 (.t p8)⟩, ⟨(some p10), none, .bin .neq (.t p7) (.t p9)⟩] []) (.kill [p6, p7, p8, p9] (.cond (.t p10) (.kill [p10] (.seq (.reg [⟨(some p4), none, .mov (.c (.bool false))⟩] []) .ret)) .skip))) (.kill [p10] (.seq (.seq (.reg [⟨(some p5), none, .mov (.c (.int .i64 0))⟩] []) (.block 0 (.loop (.seq (.seq (.reg [⟨(some p11), none, .mov (.t p5)⟩, ⟨(some p12), none, .mov (.t p0)⟩, ⟨(some p13), none, .len 1 (.t p12)⟩, ⟨(some p14), none, .bin .lss (.t p11) (.t p13)⟩] []) (.kill [p11, p12, p13] (.cond (.t p14) .skip (.exit 0)))) (.kill [p14] (.seq (.block 1 (.seq (.reg [⟨(some p17), none, .mov (.t p0)⟩, ⟨(some p18), none, .mov (.t p5)⟩, ⟨(some p19), none, .ias 1 (.t p17) (.t p18)⟩, ⟨(some p20), none, .ld none (.t p19)⟩, ⟨(some p21), none, .mov (.t p1)⟩, ⟨(some p22), none, .mov (.t p5)⟩, ⟨(some p23), none, .ias 1 (.t p21) (.t p22)⟩, ⟨(some p24), none, .ld none (.t p23)⟩, ⟨(some p25), none, .bin .neq (.t p20) (.t p24)⟩] []) (.kill [p17, p18, p19, p20, p21, p22, p23, p24] (.cond (.t p25) (.kill [p25] (.seq (.reg [⟨(some p4), none, .mov (.c (.bool false))⟩] []) .ret)) .skip)))) (.kill [p25] (.reg [⟨(some p15), none, .mov (.t p5)⟩, ⟨(some p16), none, .bin .add (.t p15) (.c (.int .i64 1))⟩, ⟨(some p5), none, .mov (.t p16)⟩] [])))))))) (.kill [p0, p1, p5, p14] (.seq (.reg [⟨(some p4), none, .mov (.c (.bool true))⟩] []) .ret))))))) }
def a24 : AFunc := { params := [], init := i124, results := [.tmp p0], body := (.seq (.reg [⟨(some p0), none, .mov (.c (.bool false))⟩] []) (.kill [p0] (.seq (.reg [⟨(some p16), none, .bslice 3 1 [(.int .i64 0)] [(0, 1, (.c (.int .i64 (-1)))), (1, 1, (.c (.int .i64 0))), (2, 1, (.c (.int .i64 1)))]⟩, ⟨(some p17), none, .bslice 3 1 [(.int .i64 0)] [(0, 1, (.c (.int .i64 6))), (1, 1, (.c (.int .i64 4))), (2, 1, (.c (.int .i64 2)))]⟩, ⟨(some p18), none, .bslice 3 1 [(.int .i64 0)] [(0, 1, (.c (.int .i64 0))), (1, 1, (.c (.int .i64 1))), (2, 1, (.c (.int .i64 2)))]⟩, ⟨(some p19), none, .build [(.slice none 0 0), (.slice none 0 0), (.slice none 0 0)] [(0, 1, (.t p16)), (1, 1, (.t p17)), (2, 1, (.t p18))]⟩, ⟨(some p1), none, .zero [(.slice none 0 0), (.slice none 0 0), (.slice none 0 0)]⟩, ⟨none, none, .st 3 (.t p1) (.t p19)⟩] []) (.kill [p16, p17, p18, p19] (.seq (.reg [⟨(some p21), none, .ld (some 3) (.t p1)⟩, ⟨(some p22), none, .call (.c (.func (.func 18) #[] #[])) [(.t p21)]⟩, ⟨(some p20), none, .mov (.t p22)⟩, ⟨(some p23), none, .ext 0 (.t p20)⟩, ⟨(some p24), none, .ext 1 (.t p20)⟩, ⟨(some p2), none, .mov (.t p23)⟩, ⟨(some p3), none, .mov (.t p24)⟩] []) (.kill [p20, p21, p22, p23, p24] (.seq (.reg [⟨(some p26), none, .ld (some 3) (.t p1)⟩, ⟨(some p27), none, .call (.c (.func (.func 31) #[] #[])) [(.t p26), (.c (.int .i64 7))]⟩, ⟨(some p25), none, .mov (.t p27)⟩, ⟨(some p28), none, .ext 0 (.t p25)⟩, ⟨(some p29), none, .ext 1 (.t p25)⟩, ⟨(some p4), none, .mov (.t p28)⟩, ⟨(some p5), none, .mov (.t p29)⟩] []) (.kill [p25, p26, p27, p28, p29] (.seq (.reg [⟨(some p31), none, .ld (some 3) (.t p1)⟩, ⟨(some p32), none, .bslice 3 1 [(.int .i64 0)] [(0, 1, (.c (.int .i64 2))), (1, 1, (.c (.int .i64 0))), (2, 1, (.c (.int .i64 1)))]⟩, ⟨(some p33), none, .call (.c (.func (.func 19) #[] #[])) [(.t p31), (.t p32)]⟩, ⟨(some p30), none, .mov (.t p33)⟩, ⟨(some p34), none, .ext 0 (.t p30)⟩, ⟨(some p35), none, .ext 1 (.t p30)⟩, ⟨(some p6), none, .mov (.t p34)⟩, ⟨(some p7), none, .mov (.t p35)⟩] []) (.kill [p30, p31, p32, p33, p34, p35] (.seq (.reg [⟨(some p37), none, .ld (some 3) (.t p1)⟩, ⟨(some p38), none, .build [(.int .i64 0), (.int .i64 0)] [(0, 1, (.c (.int .i64 7))), (1, 1, (.c (.int .i64 1)))]⟩, ⟨(some p39), none, .build [(.int .i64 0), (.int .i64 0)] [(0, 1, (.c (.int .i64 4))), (1, 1, (.c (.int .i64 1)))]⟩, ⟨(some p40), none, .build [(.int .i64 0), (.int .i64 0)] [(0, 1, (.c (.int .i64 1))), (1, 1, (.c (.int .i64 1)))]⟩, ⟨(some p41), none, .bslice 3 2 [(.int .i64 0), (.int .i64 0)] [(0, 2, (.t p38)), (2, 2, (.t p39)), (4, 2, (.t p40))]⟩, ⟨(some p42), none, .call (.c (.func (.func 25) #[] #[])) [(.t p37), (.t p41)]⟩, ⟨(some p36), none, .mov (.t p42)⟩, ⟨(some p43), none, .ext 0 (.t p36)⟩, ⟨(some p44), none, .ext 1 (.t p36)⟩, ⟨(some p45), none, .ext 2 (.t p36)⟩, ⟨(some p8), none, .mov (.t p43)⟩, ⟨(some p9), none, .mov (.t p44)⟩, ⟨(some p10), none, .mov (.t p45)⟩] []) (.kill [p36, p37, p38, p39, p40, p41, p42, p43, p44, p45] (.seq (.reg [⟨(some p47), none, .ld (some 3) (.t p1)⟩, ⟨(some p48), none, .build [(.int .i64 0), (.int .i64 0)] [(0, 1, (.c (.int .i64 6))), (1, 1, (.c (.int .i64 1)))]⟩, ⟨(some p49), none, .build [(.int .i64 0), (.int .i64 0)] [(0, 1, (.c (.int .i64 4))), (1, 1, (.c (.int .i64 1)))]⟩, ⟨(some p50), none, .build [(.int .i64 0), (.int .i64 0)] [(0, 1, (.c (.int .i64 2))), (1, 1, (.c (.int .i64 1)))]⟩, ⟨(some p51), none, .bslice 3 2 [(.int .i64 0), (.int .i64 0)] [(0, 2, (.t p48)), (2, 2, (.t p49)), (4, 2, (.t p50))]⟩, ⟨(some p52), none, .call (.c (.func (.func 25) #[] #[])) [(.t p47), (.t p51)]⟩, ⟨(some p46), none, .mov (.t p52)⟩, ⟨(some p53), none, .ext 0 (.t p46)⟩, ⟨(some p54), none, .ext 1 (.t p46)⟩, ⟨(some p55), none, .ext 2 (.t p46)⟩, ⟨(some p11), none, .mov (.t p53)⟩, ⟨(some p12), none, .mov (.t p54)⟩, ⟨(some p13), none, .mov (.t p55)⟩] []) (.kill [p11, p46, p47, p48, p49, p50, p51, p52, p53, p54, p55] (.seq (.reg [⟨(some p57), none, .ld (some 3) (.t p1)⟩, ⟨(some p58), none, .call (.c (.func (.func 28) #[] #[])) [(.t p57), (.c (.int .i64 10))]⟩, ⟨(some p56), none, .mov (.t p58)⟩, ⟨(some p59), none, .ext 0 (.t p56)⟩, ⟨(some p60), none, .ext 1 (.t p56)⟩, ⟨(some p14), none, .mov (.t p59)⟩, ⟨(some p15), none, .mov (.t p60)⟩] []) (.kill [p1, p56, p57, p58, p59, p60] (.seq (.reg [⟨(some p61), none, .mov (.t p3)⟩, ⟨(some p62), none, .bin .eql (.t p61) (.c (.int .i64 0))⟩, ⟨(some p63), none, .mov (.t p62)⟩, ⟨(some p64), (some (p63, true)), .mov (.t p2)⟩, ⟨(some p65), (some (p63, true)), .build [(.int .i64 0), (.int .i64 0)] [(0, 1, (.c (.int .i64 2))), (1, 1, (.c (.int .i64 1)))]⟩, ⟨(some p66), (some (p63, true)), .build [(.int .i64 0), (.int .i64 0)] [(0, 1, (.c (.int .i64 4))), (1, 1, (.c (.int .i64 1)))]⟩, ⟨(some p67), (some (p63, true)), .build [(.int .i64 0), (.int .i64 0)] [(0, 1, (.c (.int .i64 6))), (1, 1, (.c (.int .i64 1)))]⟩, ⟨(some p68), (some (p63, true)), .bslice 3 2 [(.int .i64 0), (.int .i64 0)] [(0, 2, (.t p65)), (2, 2, (.t p66)), (4, 2, (.t p67))]⟩, ⟨(some p69), (some (p63, true)), .call (.c (.func (.func 20) #[] #[])) [(.t p64), (.t p68)]⟩, ⟨(some p70), none, .pick (.t p63) (.t p69) (.c (.bool false))⟩, ⟨(some p71), none, .mov (.t p70)⟩, ⟨(some p72), (some (p71, true)), .mov (.t p5)⟩, ⟨(some p73), (some (p71, true)), .bin .eql (.t p72) (.c (.int .i64 0))⟩, ⟨(some p74), none, .pick (.t p71) (.t p73) (.c (.bool false))⟩, ⟨(some p75), none, .mov (.t p74)⟩, ⟨(some p76), (some (p75, true)), .mov (.t p4)⟩, ⟨(some p77), (some (p75, true)), .bin .eql (.t p76) (.c (.int .i64 12))⟩, ⟨(some p78), none, .pick (.t p75) (.t p77) (.c (.bool false))⟩, ⟨(some p79), none, .mov (.t p78)⟩, ⟨(some p80), (some (p79, true)), .mov (.t p7)⟩, ⟨(some p81), (some (p79, true)), .bin .eql (.t p80) (.c (.int .i64 0))⟩, ⟨(some p82), none, .pick (.t p79) (.t p81) (.c (.bool false))⟩, ⟨(some p83), none, .mov (.t p82)⟩, ⟨(some p84), (some (p83, true)), .mov (.t p6)⟩, ⟨(some p85), (some (p83, true)), .bslice 3 1 [(.int .i64 0)] [(0, 1, (.c (.int .i64 0))), (1, 1, (.c (.int .i64 0))), (2, 1, (.c (.int .i64 12)))]⟩, ⟨(some p86), (some (p83, true)), .call (.c (.func (.func 22) #[] #[])) [(.t p84), (.t p85)]⟩, ⟨(some p87), none, .pick (.t p83) (.t p86) (.c (.bool false))⟩, ⟨(some p88), none, .mov (.t p87)⟩, ⟨(some p89), (some (p88, true)), .mov (.t p10)⟩, ⟨(some p90), (some (p88, true)), .bin .eql (.t p89) (.c (.int .i64 0))⟩, ⟨(some p91), none, .pick (.t p88) (.t p90) (.c (.bool false))⟩, ⟨(some p92), none, .mov (.t p91)⟩, ⟨(some p93), (some (p92, true)), .mov (.t p9)⟩, ⟨(some p94), (some (p92, true)), .un .not (.t p93)⟩, ⟨(some p95), none, .pick (.t p92) (.t p94) (.c (.bool false))⟩, ⟨(some p96), none, .mov (.t p95)⟩, ⟨(some p97), (some (p96, true)), .mov (.t p8)⟩, ⟨(some p98), (some (p96, true)), .bin .eql (.t p97) (.c (.int .i64 1))⟩, ⟨(some p99), none, .pick (.t p96) (.t p98) (.c (.bool false))⟩, ⟨(some p100), none, .mov (.t p99)⟩, ⟨(some p101), (some (p100, true)), .mov (.t p13)⟩, ⟨(some p102), (some (p100, true)), .bin .eql (.t p101) (.c (.int .i64 0))⟩, ⟨(some p103), none, .pick (.t p100) (.t p102) (.c (.bool false))⟩, ⟨(some p104), none, .mov (.t p103)⟩, ⟨(some p105), (some (p104, true)), .mov (.t p12)⟩, ⟨(some p106), none, .pick (.t p104) (.t p105) (.c (.bool false))⟩, ⟨(some p107), none, .mov (.t p106)⟩, ⟨(some p108), (some (p107, true)), .mov (.t p15)⟩, ⟨(some p109), (some (p107, true)), .bin .eql (.t p108) (.c (.int .i64 0))⟩, ⟨(some p110), none, .pick (.t p107) (.t p109) (.c (.bool false))⟩, ⟨(some p111), none, .mov (.t p110)⟩, ⟨(some p112), (some (p111, true)), .mov (.t p14)⟩, ⟨(some p113), (some (p111, true)), .build [(.int .i64 0), (.int .i64 0)] [(0, 1, (.c (.int .i64 0))), (1, 1, (.c (.int .i64 1)))]⟩, ⟨(some p114), (some (p111, true)), .build [(.int .i64 0), (.int .i64 0)] [(0, 1, (.c (.int .i64 0))), (1, 1, (.c (.int .i64 1)))]⟩, ⟨(some p115), (some (p111, true)), .build [(.int .i64 0), (.int .i64 0)] [(0, 1, (.c (.int .i64 1))), (1, 1, (.c (.int .i64 1)))]⟩, ⟨(some p116), (some (p111, true)), .bslice 3 2 [(.int .i64 0), (.int .i64 0)] [(0, 2, (.t p113)), (2, 2, (.t p114)), (4, 2, (.t p115))]⟩, ⟨(some p117), (some (p111, true)), .call (.c (.func (.func 20) #[] #[])) [(.t p112), (.t p116)]⟩, ⟨(some p118), none, .pick (.t p111) (.t p117) (.c (.bool false))⟩, ⟨(some p119), none, .mov (.t p118)⟩, ⟨(some p120), (some (p119, true)), .build [(.slice none 0 0), (.slice none 0 0), (.slice none 0 0)] []⟩, ⟨(some p121), (some (p119, true)), .call (.c (.func (.func 50) #[] #[])) [(.t p120)]⟩, ⟨(some p122), (some (p119, true)), .bin .eql (.t p121) (.c (.int .i64 100))⟩, ⟨(some p123), none, .pick (.t p119) (.t p122) (.c (.bool false))⟩, ⟨(some p0), none, .mov (.t p123)⟩] []) .ret))))))))))))))))) }
def a25 : AFunc := { params := [p0, p1], init := i90, results := [.tmp p4, .tmp p5, .tmp p6], body := (.seq (.reg [⟨(some p2), none, .box (.t p0)⟩, ⟨(some p4), none, .mov (.c (.int .i64 0))⟩, ⟨(some p5), none, .mov (.c (.bool false))⟩, ⟨(some p6), none, .mov (.c (.int .i64 0))⟩] []) (.kill [p0, p4, p5, p6] (.kill [] (.seq (.reg [⟨(some p15), none, .ld (some 3) (.t p2)⟩, ⟨(some p16), none, .call (.c (.func (.func 52) #[] #[])) [(.t p15)]⟩, ⟨(some p14), none, .mov (.t p16)⟩, ⟨(some p17), none, .ext 0 (.t p14)⟩, ⟨(some p18), none, .ext 1 (.t p14)⟩, ⟨(some p7), none, .mov (.t p17)⟩, ⟨(some p8), none, .mov (.t p18)⟩] []) (.kill [p14, p15, p16, p17, p18] (.seq (.seq (.reg [⟨(some p19), none, .mov (.t p8)⟩, ⟨(some p20), none, .bin .neq (.t p19) (.c (.int .i64 0))⟩] []) (.kill [p19] (.cond (.t p20) (.kill [p20] (.seq (.reg [⟨(some p21), none, .mov (.t p8)⟩, ⟨(some p4), none, .mov (.c (.int .i64 0))⟩, ⟨(some p5), none, .mov (.c (.bool false))⟩, ⟨(some p6), none, .mov (.t p21)⟩] []) .ret)) .skip))) (.kill [p20] (.seq (.seq (.reg [⟨(some p22), none, .mov (.t p1)⟩, ⟨(some p23), none, .len 1 (.t p22)⟩, ⟨(some p24), none, .fad 2 (.t p2)⟩, ⟨(some p25), none, .ld none (.t p24)⟩, ⟨(some p26), none, .len 1 (.t p25)⟩, ⟨(some p27), none, .bin .neq (.t p23) (.t p26)⟩] []) (.kill [p2, p22, p23, p24, p25, p26] (.cond (.t p27) (.kill [p27] (.seq (.reg [⟨(some p4), none, .mov (.c (.int .i64 0))⟩, ⟨(some p5), none, .mov (.c (.bool false))⟩, ⟨(some p6), none, .mov (.c (.int .i64 1))⟩] []) .ret)) .skip))) (.kill [p27] (.seq (.seq (.reg [⟨(some p28), none, .mov (.t p1)⟩, ⟨(some p29), none, .len 1 (.t p28)⟩, ⟨(some p30), none, .mov (.c (.int .i64 0))⟩] []) (.block 0 (.loop (.seq (.reg [⟨(some p31), none, .bin .lss (.t p30) (.t p29)⟩] []) (.seq (.cond (.t p31) .skip (.exit 0)) (.kill [p31] (.seq (.block 1 (.seq (.reg [⟨(some p32), none, .ias 2 (.t p28) (.t p30)⟩, ⟨(some p33), none, .ld (some 2) (.t p32)⟩, ⟨(some p10), none, .zero [(.int .i64 0), (.int .i64 0)]⟩, ⟨none, none, .st 2 (.t p10) (.t p33)⟩] []) (.kill [p32, p33] (.seq (.reg [⟨(some p34), none, .iad 2 1 (.t p10) (.c (.int .i64 0))⟩, ⟨(some p35), none, .ld none (.t p34)⟩, ⟨(some p36), none, .bin .lss (.t p35) (.c (.int .i64 (-1000000000)))⟩, ⟨(some p37), none, .mov (.t p36)⟩, ⟨(some p38), (some (p37, false)), .iad 2 1 (.t p10) (.c (.int .i64 0))⟩, ⟨(some p39), (some (p37, false)), .ld none (.t p38)⟩, ⟨(some p40), (some (p37, false)), .bin .gtr (.t p39) (.c (.int .i64 1000000000))⟩, ⟨(some p41), none, .pick (.t p37) (.c (.bool true)) (.t p40)⟩, ⟨(some p42), none, .mov (.t p41)⟩, ⟨(some p43), (some (p42, false)), .iad 2 1 (.t p10) (.c (.int .i64 1))⟩, ⟨(some p44), (some (p42, false)), .ld none (.t p43)⟩, ⟨(some p45), (some (p42, false)), .bin .lss (.t p44) (.c (.int .i64 1))⟩, ⟨(some p46), none, .pick (.t p42) (.c (.bool true)) (.t p45)⟩, ⟨(some p47), none, .mov (.t p46)⟩, ⟨(some p48), (some (p47, false)), .iad 2 1 (.t p10) (.c (.int .i64 1))⟩, ⟨(some p49), (some (p47, false)), .ld none (.t p48)⟩, ⟨(some p50), (some (p47, false)), .bin .rem (.c (.int .i64 5040)) (.t p49)⟩, ⟨(some p51), (some (p47, false)), .bin .neq (.t p50) (.c (.int .i64 0))⟩, ⟨(some p52), none, .pick (.t p47) (.c (.bool true)) (.t p51)⟩, ⟨(some p53), none, .mov (.t p52)⟩, ⟨(some p54), (some (p53, false)), .iad 2 1 (.t p10) (.c (.int .i64 0))⟩, ⟨(some p55), (some (p53, false)), .ld none (.t p54)⟩, ⟨(some p56), (some (p53, false)), .iad 2 1 (.t p10) (.c (.int .i64 1))⟩, ⟨(some p57), (some (p53, false)), .ld none (.t p56)⟩, ⟨(some p58), (some (p53, false)), .call (.c (.func (.func 61) #[] #[])) [(.t p55), (.t p57)]⟩, ⟨(some p59), (some (p53, false)), .bin .neq (.t p58) (.c (.int .i64 1))⟩, ⟨(some p60), none, .pick (.t p53) (.c (.bool true)) (.t p59)⟩] []) (.kill [p10, p34, p35, p36, p37, p38, p39, p40, p41, p42, p43, p44, p45, p46, p47, p48, p49, p50, p51, p52, p53, p54, p55, p56, p57, p58, p59] (.cond (.t p60) (.kill [p60] (.seq (.reg [⟨(some p4), none, .mov (.c (.int .i64 0))⟩, ⟨(some p5), none, .mov (.c (.bool false))⟩, ⟨(some p6), none, .mov (.c (.int .i64 1))⟩] []) .ret)) .skip)))))) (.kill [p60] (.reg [⟨(some p61), none, .bin .add (.t p30) (.c (.int .i64 1))⟩, ⟨(some p30), none, .mov (.t p61)⟩] []))))))))) (.kill [p28, p29, p30, p31] (.seq (.reg [⟨(some p11), none, .mov (.c (.int .i64 0))⟩] []) (.seq .skip (.seq (.seq (.reg [⟨(some p62), none, .mov (.t p7)⟩, ⟨(some p63), none, .call (.c (.func (.func 57) #[] #[])) [(.t p62)]⟩, ⟨(some p64), none, .bin .add (.t p63) (.c (.int .i64 1))⟩, ⟨(some p65), none, .mov (.c (.int .i64 0))⟩] []) (.kill [p62, p63] (.block 2 (.loop (.seq (.reg [⟨(some p66), none, .bin .lss (.t p65) (.t p64)⟩] []) (.seq (.cond (.t p66) .skip (.exit 2)) (.kill [p66] (.seq (.block 3 (.seq (.reg [⟨(some p67), none, .mov (.t p65)⟩, ⟨(some p12), none, .mov (.t p67)⟩] []) (.kill [p67] (.seq (.reg [⟨(some p68), none, .mov (.t p7)⟩, ⟨(some p69), none, .mov (.t p1)⟩, ⟨(some p70), none, .mov (.t p12)⟩, ⟨(some p71), none, .call (.c (.func (.func 62) #[] #[])) [(.t p68), (.t p69), (.t p70)]⟩, ⟨(some p72), none, .bin .gtr (.t p71) (.c (.int .i64 0))⟩] []) (.kill [p68, p69, p70, p71] (.cond (.t p72) (.kill [p72] (.seq (.reg [⟨(some p73), none, .mov (.t p12)⟩, ⟨(some p11), none, .mov (.t p73)⟩] []) (.kill [p12, p73] (.exit 2)))) .skip)))))) (.kill [p72] (.reg [⟨(some p74), none, .bin .add (.t p65) (.c (.int .i64 1))⟩, ⟨(some p65), none, .mov (.t p74)⟩] [])))))))))) (.kill [p64, p65, p66] (.seq (.seq (.reg [⟨(some p75), none, .mov (.t p11)⟩, ⟨(some p76), none, .bin .neq (.t p75) (.c (.int .i64 0))⟩] []) (.kill [p75] (.cond (.t p76) (.kill [p76] (.seq (.reg [⟨(some p77), none, .mov (.t p11)⟩, ⟨(some p4), none, .mov (.t p77)⟩, ⟨(some p5), none, .mov (.c (.bool false))⟩, ⟨(some p6), none, .mov (.c (.int .i64 0))⟩] []) .ret)) .skip))) (.kill [p76] (.seq (.reg [⟨(some p78), none, .mov (.t p1)⟩, ⟨(some p79), none, .call (.c (.func (.func 63) #[] #[])) [(.t p78), (.c (.func (.func 64) #[] #[]))]⟩, ⟨(some p13), none, .mov (.t p79)⟩] []) (.kill [p78, p79] (.seq (.reg [⟨(some p80), none, .mov (.t p13)⟩, ⟨(some p81), none, .un .not (.t p80)⟩, ⟨(some p82), none, .mov (.t p81)⟩, ⟨(some p83), (some (p82, true)), .mov (.t p7)⟩, ⟨(some p84), (some (p82, true)), .mov (.t p1)⟩, ⟨(some p85), (some (p82, true)), .mov (.t p7)⟩, ⟨(some p86), (some (p82, true)), .call (.c (.func (.func 57) #[] #[])) [(.t p85)]⟩, ⟨(some p87), (some (p82, true)), .call (.c (.func (.func 62) #[] #[])) [(.t p83), (.t p84), (.t p86)]⟩, ⟨(some p88), (some (p82, true)), .bin .eql (.t p87) (.c (.int .i64 0))⟩, ⟨(some p89), none, .pick (.t p82) (.t p88) (.c (.bool false))⟩, ⟨(some p4), none, .mov (.c (.int .i64 0))⟩, ⟨(some p5), none, .mov (.t p89)⟩, ⟨(some p6), none, .mov (.c (.int .i64 0))⟩] []) .ret)))))))))))))))))))) }
def a28 : AFunc := { params := [p0, p1], init := i25, results := [.tmp p4, .tmp p5], body := (.seq (.reg [⟨(some p2), none, .box (.t p0)⟩, ⟨(some p3), none, .box (.t p1)⟩, ⟨(some p4), none, .mov (.c (.slice none 0 0))⟩, ⟨(some p5), none, .mov (.c (.int .i64 0))⟩] []) (.kill [p0, p1, p4, p5] (.seq (.reg [⟨(some p9), none, .ld (some 3) (.t p2)⟩, ⟨(some p10), none, .call (.c (.func (.func 52) #[] #[])) [(.t p9)]⟩, ⟨(some p8), none, .mov (.t p10)⟩, ⟨(some p11), none, .ext 0 (.t p8)⟩, ⟨(some p12), none, .ext 1 (.t p8)⟩, ⟨(some p6), none, .zero [(.pointer none)]⟩, ⟨none, none, .st 1 (.t p6) (.t p11)⟩, ⟨(some p7), none, .mov (.t p12)⟩] []) (.kill [p2, p8, p9, p10, p11, p12] (.seq (.seq (.reg [⟨(some p13), none, .mov (.t p7)⟩, ⟨(some p14), none, .bin .neq (.t p13) (.c (.int .i64 0))⟩] []) (.kill [p13] (.cond (.t p14) (.kill [p14] (.seq (.reg [⟨(some p15), none, .mov (.t p7)⟩, ⟨(some p4), none, .mov (.c (.slice none 0 0))⟩, ⟨(some p5), none, .mov (.t p15)⟩] []) .ret)) .skip))) (.kill [p14] (.seq (.seq (.reg [⟨(some p16), none, .ld none (.t p3)⟩, ⟨(some p17), none, .bin .lss (.t p16) (.c (.int .i64 0))⟩, ⟨(some p18), none, .mov (.t p17)⟩, ⟨(some p19), (some (p18, false)), .ld none (.t p3)⟩, ⟨(some p20), (some (p18, false)), .bin .gtr (.t p19) (.c (.int .i64 10000))⟩, ⟨(some p21), none, .pick (.t p18) (.c (.bool true)) (.t p20)⟩] []) (.kill [p16, p17, p18, p19, p20] (.cond (.t p21) (.kill [p21] (.seq (.reg [⟨(some p4), none, .mov (.c (.slice none 0 0))⟩, ⟨(some p5), none, .mov (.c (.int .i64 1))⟩] []) .ret)) .skip))) (.kill [p21] (.seq (.reg [⟨(some p22), none, .ld none (.t p6)⟩, ⟨(some p23), none, .clos (.func 67) [] [(.t p6), (.t p3)]⟩, ⟨(some p24), none, .call (.c (.func (.func 66) #[] #[])) [(.t p22), (.t p23)]⟩, ⟨(some p4), none, .mov (.t p24)⟩, ⟨(some p5), none, .mov (.c (.int .i64 0))⟩] []) .ret))))))))) }
def a31 : AFunc := { params := [p0, p1], init := i20, results := [.tmp p4, .tmp p5], body := (.seq (.reg [⟨(some p2), none, .box (.t p0)⟩, ⟨(some p4), none, .mov (.c (.int .i64 0))⟩, ⟨(some p5), none, .mov (.c (.int .i64 0))⟩] []) (.kill [p0, p4, p5] (.seq (.reg [⟨(some p9), none, .ld (some 3) (.t p2)⟩, ⟨(some p10), none, .mov (.t p1)⟩, ⟨(some p11), none, .call (.c (.func (.func 70) #[] #[])) [(.t p9), (.t p10)]⟩, ⟨(some p8), none, .mov (.t p11)⟩, ⟨(some p12), none, .ext 0 (.t p8)⟩, ⟨(some p13), none, .ext 1 (.t p8)⟩, ⟨(some p6), none, .mov (.t p12)⟩, ⟨(some p7), none, .mov (.t p13)⟩] []) (.kill [p2, p8, p9, p10, p11, p12, p13] (.seq (.seq (.reg [⟨(some p14), none, .mov (.t p7)⟩, ⟨(some p15), none, .bin .neq (.t p14) (.c (.int .i64 0))⟩] []) (.kill [p14] (.cond (.t p15) (.kill [p15] (.seq (.reg [⟨(some p16), none, .mov (.t p7)⟩, ⟨(some p4), none, .mov (.c (.int .i64 0))⟩, ⟨(some p5), none, .mov (.t p16)⟩] []) .ret)) .skip))) (.kill [p15] (.seq (.reg [⟨(some p17), none, .mov (.t p6)⟩, ⟨(some p18), none, .mov (.t p1)⟩, ⟨(some p19), none, .call (.c (.func (.func 68) #[] #[])) [(.t p17), (.t p18)]⟩, ⟨(some p4), none, .mov (.t p19)⟩, ⟨(some p5), none, .mov (.c (.int .i64 0))⟩] []) .ret))))))) }
def a32 : AFunc := { params := [p0, p1], init := i47, results := [.tmp p4], body := (.seq (.reg [⟨(some p4), none, .mov (.c (.bool false))⟩] []) (.kill [p4] (.seq (.seq (.reg [⟨(some p5), none, .mov (.c (.int .i64 0))⟩] []) (.block 0 (.loop (.seq (.seq (.reg [⟨(some p6), none, .mov (.t p5)⟩, ⟨(some p7), none, .mov (.t p0)⟩, ⟨(some p8), none, .len 1 (.t p7)⟩, ⟨(some p9), none, .bin .lss (.t p6) (.t p8)⟩] []) (.kill [p6, p7, p8] (.cond (.t p9) .skip (.exit 0)))) (.kill [p9] (.seq (.block 1 (.seq (.reg [⟨(some p12), none, .mov (.t p0)⟩, ⟨(some p13), none, .mov (.t p5)⟩, ⟨(some p14), none, .ias 2 (.t p12) (.t p13)⟩, ⟨(some p15), none, .iad 2 1 (.t p14) (.c (.int .i64 1))⟩, ⟨(some p16), none, .ld none (.t p15)⟩, ⟨(some p17), none, .bin .lss (.t p16) (.c (.int .i64 1))⟩, ⟨(some p18), none, .mov (.t p17)⟩, ⟨(some p19), (some (p18, false)), .mov (.t p0)⟩, ⟨(some p20), (some (p18, false)), .mov (.t p5)⟩, ⟨(some p21), (some (p18, false)), .ias 2 (.t p19) (.t p20)⟩, ⟨(some p22), (some (p18, false)), .iad 2 1 (.t p21) (.c (.int .i64 1))⟩, ⟨(some p23), (some (p18, false)), .ld none (.t p22)⟩, ⟨(some p24), (some (p18, false)), .bin .rem (.c (.int .i64 5040)) (.t p23)⟩, ⟨(some p25), (some (p18, false)), .bin .neq (.t p24) (.c (.int .i64 0))⟩, ⟨(some p26), none, .pick (.t p18) (.c (.bool true)) (.t p25)⟩, ⟨(some p27), none, .mov (.t p26)⟩, ⟨(some p28), (some (p27, false)), .mov (.t p0)⟩, ⟨(some p29), (some (p27, false)), .mov (.t p5)⟩, ⟨(some p30), (some (p27, false)), .ias 2 (.t p28) (.t p29)⟩, ⟨(some p31), (some (p27, false)), .iad 2 1 (.t p30) (.c (.int .i64 0))⟩, ⟨(some p32), (some (p27, false)), .ld none (.t p31)⟩, ⟨(some p33), (some (p27, false)), .bin .lss (.t p32) (.c (.int .i64 (-1000000000)))⟩, ⟨(some p34), none, .pick (.t p27) (.c (.bool true)) (.t p33)⟩, ⟨(some p35), none, .mov (.t p34)⟩, ⟨(some p36), (some (p35, false)), .mov (.t p0)⟩, ⟨(some p37), (some (p35, false)), .mov (.t p5)⟩, ⟨(some p38), (some (p35, false)), .ias 2 (.t p36) (.t p37)⟩, ⟨(some p39), (some (p35, false)), .iad 2 1 (.t p38) (.c (.int .i64 0))⟩, ⟨(some p40), (some (p35, false)), .ld none (.t p39)⟩, ⟨(some p41), (some (p35, false)), .bin .gtr (.t p40) (.c (.int .i64 1000000000))⟩, ⟨(some p42), none, .pick (.t p35) (.c (.bool true)) (.t p41)⟩] []) (.kill [p12, p13, p14, p15, p16, p17, p18, p19, p20, p21, p22, p23, p24, p25, p26, p27, p28, p29, p30, p31, p32, p33, p34, p35, p36, p37, p38, p39, p40, p41] (.cond (.t p42) (.kill [p42] (.seq (.reg [⟨(some p4), none, .mov (.c (.bool false))⟩] []) .ret)) .skip)))) (.kill [p42] (.reg [⟨(some p10), none, .mov (.t p5)⟩, ⟨(some p11), none, .bin .add (.t p10) (.c (.int .i64 1))⟩, ⟨(some p5), none, .mov (.t p11)⟩] [])))))))) (.kill [p5, p9] (.seq (.reg [⟨(some p43), none, .mov (.t p0)⟩, ⟨(some p44), none, .len 1 (.t p43)⟩, ⟨(some p45), none, .mov (.t p1)⟩, ⟨(some p46), none, .bin .eql (.t p44) (.t p45)⟩, ⟨(some p4), none, .mov (.t p46)⟩] []) .ret))))) }
def a33 : AFunc := { params := [p0, p1, p2], init := i43, results := [.tmp p6], body := (.seq (.reg [⟨(some p6), none, .mov (.c (.int .i64 0))⟩] []) (.kill [p6] (.seq (.reg [⟨(some p9), none, .mov (.t p2)⟩, ⟨(some p10), none, .un .neg (.t p9)⟩, ⟨(some p11), none, .bin .mul (.t p10) (.c (.int .i64 5040))⟩, ⟨(some p7), none, .mov (.t p11)⟩] []) (.kill [p2, p9, p10, p11] (.seq (.seq (.reg [⟨(some p8), none, .mov (.c (.int .i64 0))⟩] []) (.block 0 (.loop (.seq (.seq (.reg [⟨(some p12), none, .mov (.t p8)⟩, ⟨(some p13), none, .mov (.t p0)⟩, ⟨(some p14), none, .len 1 (.t p13)⟩, ⟨(some p15), none, .bin .lss (.t p12) (.t p14)⟩] []) (.kill [p12, p13, p14] (.cond (.t p15) .skip (.exit 0)))) (.kill [p15] (.seq (.block 1 (.seq (.reg [⟨(some p18), none, .mov (.t p1)⟩, ⟨(some p19), none, .mov (.t p8)⟩, ⟨(some p20), none, .bin .shr (.t p18) (.t p19)⟩, ⟨(some p21), none, .bin .rem (.t p20) (.c (.int .i64 2))⟩, ⟨(some p22), none, .bin .eql (.t p21) (.c (.int .i64 1))⟩] []) (.kill [p18, p19, p20, p21] (.cond (.t p22) (.kill [p22] (.reg [⟨(some p23), none, .mov (.t p7)⟩, ⟨(some p24), none, .mov (.t p0)⟩, ⟨(some p25), none, .mov (.t p8)⟩, ⟨(some p26), none, .ias 2 (.t p24) (.t p25)⟩, ⟨(some p27), none, .iad 2 1 (.t p26) (.c (.int .i64 0))⟩, ⟨(some p28), none, .ld none (.t p27)⟩, ⟨(some p29), none, .mov (.t p0)⟩, ⟨(some p30), none, .mov (.t p8)⟩, ⟨(some p31), none, .ias 2 (.t p29) (.t p30)⟩, ⟨(some p32), none, .iad 2 1 (.t p31) (.c (.int .i64 1))⟩, ⟨(some p33), none, .ld none (.t p32)⟩, ⟨(some p34), none, .bin .quo (.c (.int .i64 5040)) (.t p33)⟩, ⟨(some p35), none, .bin .mul (.t p28) (.t p34)⟩, ⟨(some p36), none, .bin .add (.t p23) (.t p35)⟩, ⟨(some p7), none, .mov (.t p36)⟩] [])) .skip)))) (.kill [p22, p23, p24, p25, p26, p27, p28, p29, p30, p31, p32, p33, p34, p35, p36] (.reg [⟨(some p16), none, .mov (.t p8)⟩, ⟨(some p17), none, .bin .add (.t p16) (.c (.int .i64 1))⟩, ⟨(some p8), none, .mov (.t p17)⟩] [])))))))) (.kill [p0, p1, p8, p15] (.seq (.block 2 (.seq (.reg [⟨(some p38), none, .mov (.t p7)⟩, ⟨(some p39), none, .bin .gtr (.t p38) (.c (.int .i64 0))⟩, ⟨(some p37), none, .mov (.t p39)⟩] []) (.kill [p38, p39] (.cond (.t p37) (.kill [p37] (.seq (.reg [⟨(some p6), none, .mov (.c (.int .i64 1))⟩] []) .ret)) (.kill [p37] (.seq (.reg [⟨(some p41), none, .mov (.t p7)⟩, ⟨(some p42), none, .bin .lss (.t p41) (.c (.int .i64 0))⟩, ⟨(some p40), none, .mov (.t p42)⟩] []) (.kill [p7, p41, p42] (.cond (.t p40) (.kill [p40] (.seq (.reg [⟨(some p6), none, .mov (.c (.int .i64 (-1)))⟩] []) .ret)) .skip)))))))) (.kill [p37, p40] (.seq (.reg [⟨(some p6), none, .mov (.c (.int .i64 0))⟩] []) .ret))))))))) }
def a34 : AFunc := { params := [p0, p1], init := i24, results := [.tmp p4], body := (.seq (.reg [⟨(some p2), none, .box (.t p0)⟩, ⟨(some p4), none, .mov (.c (.int .i64 0))⟩] []) (.kill [p0, p4] (.seq (.reg [⟨(some p5), none, .mov (.c (.int .i64 0))⟩] []) (.seq (.seq (.reg [⟨(some p7), none, .fad 2 (.t p2)⟩, ⟨(some p8), none, .ld none (.t p7)⟩, ⟨(some p9), none, .mov (.t p1)⟩, ⟨(some p10), none, .ias 1 (.t p8) (.t p9)⟩, ⟨(some p11), none, .ld none (.t p10)⟩, ⟨(some p6), none, .mov (.t p11)⟩] []) (.kill [p1, p7, p8, p9, p10, p11] (.block 0 (.loop (.seq (.seq (.reg [⟨(some p12), none, .mov (.t p6)⟩, ⟨(some p13), none, .bin .geq (.t p12) (.c (.int .i64 0))⟩] []) (.kill [p12] (.cond (.t p13) .skip (.exit 0)))) (.kill [p13] (.seq (.block 1 (.reg [⟨(some p19), none, .mov (.t p5)⟩, ⟨(some p20), none, .mov (.t p6)⟩, ⟨(some p21), none, .bin .shl (.c (.int .i64 1)) (.t p20)⟩, ⟨(some p22), none, .bin .or (.t p19) (.t p21)⟩, ⟨(some p5), none, .mov (.t p22)⟩] [])) (.kill [p19, p20, p21, p22] (.reg [⟨(some p14), none, .fad 0 (.t p2)⟩, ⟨(some p15), none, .ld none (.t p14)⟩, ⟨(some p16), none, .mov (.t p6)⟩, ⟨(some p17), none, .ias 1 (.t p15) (.t p16)⟩, ⟨(some p18), none, .ld none (.t p17)⟩, ⟨(some p6), none, .mov (.t p18)⟩] []))))))))) (.kill [p2, p6, p13] (.seq (.reg [⟨(some p23), none, .mov (.t p5)⟩, ⟨(some p4), none, .mov (.t p23)⟩] []) .ret)))))) }
def a43 : AFunc := { params := [p0, p1], init := i14, results := [.tmp p4], body := (.seq (.reg [⟨(some p4), none, .mov (.c (.slice none 0 0))⟩] []) (.kill [p4] (.seq (.reg [⟨(some p5), none, .mov (.c (.slice none 0 0))⟩] []) (.seq (.reg [⟨(some p6), none, .mov (.t p5)⟩, ⟨(some p7), none, .mov (.t p0)⟩, ⟨(some p8), none, .mov (.t p0)⟩, ⟨(some p9), none, .len 1 (.t p8)⟩, ⟨(some p10), none, .mov (.t p1)⟩, ⟨(some p11), none, .min (.t p9) [(.t p10)]⟩, ⟨(some p12), none, .slsl 1 (.t p7) none (some (.t p11)) none⟩, ⟨(some p13), none, .app 1 (.t p6) (.t p12)⟩, ⟨(some p4), none, .mov (.t p13)⟩] []) .ret)))) }
def a50 : AFunc := { params := [p0], init := i76, results := [.tmp p2], body := (.seq (.reg [⟨(some p1), none, .box (.t p0)⟩, ⟨(some p2), none, .mov (.c (.int .i64 0))⟩] []) (.kill [p0, p2] (.seq (.reg [⟨(some p6), none, .fad 0 (.t p1)⟩, ⟨(some p7), none, .ld none (.t p6)⟩, ⟨(some p8), none, .len 1 (.t p7)⟩, ⟨(some p3), none, .zero [(.int .i64 0)]⟩, ⟨none, none, .st 1 (.t p3) (.t p8)⟩] []) (.kill [p6, p7, p8] (.seq (.seq (.reg [⟨(some p9), none, .ld none (.t p3)⟩, ⟨(some p10), none, .bin .lss (.t p9) (.c (.int .i64 1))⟩, ⟨(some p11), none, .mov (.t p10)⟩, ⟨(some p12), (some (p11, false)), .ld none (.t p3)⟩, ⟨(some p13), (some (p11, false)), .bin .gtr (.t p12) (.c (.int .i64 10))⟩, ⟨(some p14), none, .pick (.t p11) (.c (.bool true)) (.t p13)⟩, ⟨(some p15), none, .mov (.t p14)⟩, ⟨(some p16), (some (p15, false)), .fad 1 (.t p1)⟩, ⟨(some p17), (some (p15, false)), .ld none (.t p16)⟩, ⟨(some p18), (some (p15, false)), .len 1 (.t p17)⟩, ⟨(some p19), (some (p15, false)), .ld none (.t p3)⟩, ⟨(some p20), (some (p15, false)), .bin .neq (.t p18) (.t p19)⟩, ⟨(some p21), none, .pick (.t p15) (.c (.bool true)) (.t p20)⟩, ⟨(some p22), none, .mov (.t p21)⟩, ⟨(some p23), (some (p22, false)), .fad 2 (.t p1)⟩, ⟨(some p24), (some (p22, false)), .ld none (.t p23)⟩, ⟨(some p25), (some (p22, false)), .len 1 (.t p24)⟩, ⟨(some p26), (some (p22, false)), .bin .gtr (.t p25) (.c (.int .i64 7))⟩, ⟨(some p27), none, .pick (.t p22) (.c (.bool true)) (.t p26)⟩] []) (.kill [p9, p10, p11, p12, p13, p14, p15, p16, p17, p18, p19, p20, p21, p22, p23, p24, p25, p26] (.cond (.t p27) (.kill [p27] (.seq (.reg [⟨(some p2), none, .mov (.c (.int .i64 100))⟩] []) .ret)) .skip))) (.kill [p27] (.seq (.seq (.reg [⟨(some p28), none, .fad 0 (.t p1)⟩, ⟨(some p29), none, .ld none (.t p28)⟩, ⟨(some p30), none, .len 1 (.t p29)⟩, ⟨(some p31), none, .mov (.c (.int .i64 0))⟩] []) (.kill [p28] (.block 0 (.loop (.seq (.reg [⟨(some p32), none, .bin .lss (.t p31) (.t p30)⟩] []) (.seq (.cond (.t p32) .skip (.exit 0)) (.kill [p32] (.seq (.block 1 (.seq (.reg [⟨(some p33), none, .mov (.t p31)⟩, ⟨(some p34), none, .ias 1 (.t p29) (.t p31)⟩, ⟨(some p35), none, .ld none (.t p34)⟩, ⟨(some p4), none, .mov (.t p33)⟩, ⟨(some p5), none, .mov (.t p35)⟩] []) (.kill [p33, p34, p35] (.seq (.reg [⟨(some p36), none, .mov (.t p4)⟩, ⟨(some p37), none, .bin .eql (.t p36) (.c (.int .i64 0))⟩, ⟨(some p38), none, .mov (.t p37)⟩, ⟨(some p39), (some (p38, true)), .mov (.t p5)⟩, ⟨(some p40), (some (p38, true)), .bin .neq (.t p39) (.c (.int .i64 (-1)))⟩, ⟨(some p41), none, .pick (.t p38) (.t p40) (.c (.bool false))⟩, ⟨(some p42), none, .mov (.t p41)⟩, ⟨(some p43), (some (p42, false)), .mov (.t p4)⟩, ⟨(some p44), (some (p42, false)), .bin .gtr (.t p43) (.c (.int .i64 0))⟩, ⟨(some p45), (some (p42, false)), .mov (.t p44)⟩, ⟨(some p46), (some (p45, true)), .mov (.t p5)⟩, ⟨(some p47), (some (p45, true)), .bin .lss (.t p46) (.c (.int .i64 0))⟩, ⟨(some p48), (some (p45, true)), .mov (.t p47)⟩, ⟨(some p49), (some (p48, false)), .mov (.t p5)⟩, ⟨(some p50), (some (p48, false)), .mov (.t p4)⟩, ⟨(some p51), (some (p48, false)), .bin .geq (.t p49) (.t p50)⟩, ⟨(some p52), (some (p45, true)), .pick (.t p48) (.c (.bool true)) (.t p51)⟩, ⟨(some p53), (some (p42, false)), .pick (.t p45) (.t p52) (.c (.bool false))⟩, ⟨(some p54), none, .pick (.t p42) (.c (.bool true)) (.t p53)⟩, ⟨(some p55), none, .mov (.t p54)⟩, ⟨(some p56), (some (p55, false)), .fad 1 (.t p1)⟩, ⟨(some p57), (some (p55, false)), .ld none (.t p56)⟩, ⟨(some p58), (some (p55, false)), .mov (.t p4)⟩, ⟨(some p59), (some (p55, false)), .ias 1 (.t p57) (.t p58)⟩, ⟨(some p60), (some (p55, false)), .ld none (.t p59)⟩, ⟨(some p61), (some (p55, false)), .bin .lss (.t p60) (.c (.int .i64 0))⟩, ⟨(some p62), none, .pick (.t p55) (.c (.bool true)) (.t p61)⟩, ⟨(some p63), none, .mov (.t p62)⟩, ⟨(some p64), (some (p63, false)), .fad 1 (.t p1)⟩, ⟨(some p65), (some (p63, false)), .ld none (.t p64)⟩, ⟨(some p66), (some (p63, false)), .mov (.t p4)⟩, ⟨(some p67), (some (p63, false)), .ias 1 (.t p65) (.t p66)⟩, ⟨(some p68), (some (p63, false)), .ld none (.t p67)⟩, ⟨(some p69), (some (p63, false)), .bin .gtr (.t p68) (.c (.int .i64 1000))⟩, ⟨(some p70), none, .pick (.t p63) (.c (.bool true)) (.t p69)⟩] []) (.kill [p4, p5, p36, p37, p38, p39, p40, p41, p42, p43, p44, p45, p46, p47, p48, p49, p50, p51, p52, p53, p54, p55, p56, p57, p58, p59, p60, p61, p62, p63, p64, p65, p66, p67, p68, p69] (.cond (.t p70) (.kill [p70] (.seq (.reg [⟨(some p2), none, .mov (.c (.int .i64 100))⟩] []) .ret)) .skip)))))) (.kill [p70] (.reg [⟨(some p71), none, .bin .add (.t p31) (.c (.int .i64 1))⟩, ⟨(some p31), none, .mov (.t p71)⟩] [])))))))))) (.kill [p29, p30, p31, p32] (.seq (.seq (.reg [⟨(some p72), none, .fad 2 (.t p1)⟩, ⟨(some p73), none, .ld none (.t p72)⟩, ⟨(some p74), none, .clos (.func 76) [] [(.t p3)]⟩, ⟨(some p75), none, .call (.c (.func (.func 75) #[] #[])) [(.t p73), (.t p74)]⟩] []) (.kill [p1, p3, p72, p73, p74] (.cond (.t p75) (.kill [p75] (.seq (.reg [⟨(some p2), none, .mov (.c (.int .i64 100))⟩] []) .ret)) .skip))) (.kill [p75] (.seq (.reg [⟨(some p2), none, .mov (.c (.int .i64 0))⟩] []) .ret))))))))))) }
def a52 : AFunc := { params := [p0], init := i47, results := [.tmp p2, .tmp p3], body := (.seq (.reg [⟨(some p1), none, .box (.t p0)⟩, ⟨(some p2), none, .mov (.c (.pointer none))⟩, ⟨(some p3), none, .mov (.c (.int .i64 0))⟩] []) (.kill [p0, p2, p3] (.seq (.seq (.reg [⟨(some p8), none, .ld (some 3) (.t p1)⟩, ⟨(some p9), none, .call (.c (.func (.func 50) #[] #[])) [(.t p8)]⟩, ⟨(some p4), none, .mov (.t p9)⟩] []) (.kill [p8, p9] (.seq (.reg [⟨(some p10), none, .mov (.t p4)⟩, ⟨(some p11), none, .bin .neq (.t p10) (.c (.int .i64 0))⟩] []) (.kill [p10] (.cond (.t p11) (.kill [p11] (.seq (.reg [⟨(some p12), none, .mov (.t p4)⟩, ⟨(some p2), none, .mov (.c (.pointer none))⟩, ⟨(some p3), none, .mov (.t p12)⟩] []) .ret)) .skip))))) (.kill [p11] (.seq (.reg [⟨(some p13), none, .ld (some 3) (.t p1)⟩, ⟨(some p14), none, .mkmap⟩, ⟨(some p15), none, .build [(.slice none 0 0), (.slice none 0 0), (.slice none 0 0), (.int .i64 0), (.int .i64 0), (.int .i64 0), (.int .i64 0), (.int .i64 0), (.int .i64 0), (.int .i64 0), (.map none)] [(0, 3, (.t p13)), (10, 1, (.t p14))]⟩, ⟨(some p16), none, .box (.t p15)⟩, ⟨(some p5), none, .mov (.t p16)⟩] []) (.kill [p13, p14, p15, p16] (.seq (.seq (.reg [⟨(some p17), none, .fad 2 (.t p1)⟩, ⟨(some p18), none, .ld none (.t p17)⟩, ⟨(some p19), none, .len 1 (.t p18)⟩, ⟨(some p20), none, .mov (.c (.int .i64 0))⟩] []) (.kill [p17] (.block 0 (.loop (.seq (.reg [⟨(some p21), none, .bin .lss (.t p20) (.t p19)⟩] []) (.seq (.cond (.t p21) .skip (.exit 0)) (.kill [p21] (.seq (.block 1 (.seq (.reg [⟨(some p22), none, .mov (.t p20)⟩, ⟨(some p23), none, .ias 1 (.t p18) (.t p20)⟩, ⟨(some p24), none, .ld none (.t p23)⟩, ⟨(some p6), none, .mov (.t p22)⟩, ⟨(some p7), none, .mov (.t p24)⟩] []) (.kill [p22, p23, p24] (.block 2 (.loop (.seq (.seq (.reg [⟨(some p25), none, .mov (.t p7)⟩, ⟨(some p26), none, .bin .geq (.t p25) (.c (.int .i64 0))⟩] []) (.kill [p25] (.cond (.t p26) .skip (.exit 2)))) (.kill [p26] (.seq (.block 3 (.reg [⟨(some p32), none, .mov (.t p5)⟩, ⟨(some p33), none, .mov (.t p6)⟩, ⟨(some p34), none, .nilchk (.t p32)⟩, ⟨(some p35), none, .fad 3 (.t p34)⟩, ⟨(some p36), none, .iad 7 1 (.t p35) (.t p33)⟩, ⟨(some p37), none, .ld none (.t p36)⟩, ⟨(some p38), none, .mov (.t p7)⟩, ⟨(some p39), none, .cvt .u64 (.t p38)⟩, ⟨(some p40), none, .bin .shl (.c (.int .i64 1)) (.t p39)⟩, ⟨(some p41), none, .bin .or (.t p37) (.t p40)⟩, ⟨(some p42), none, .nilchk (.t p32)⟩, ⟨(some p43), none, .fad 3 (.t p42)⟩, ⟨(some p44), none, .iad 7 1 (.t p43) (.t p33)⟩, ⟨none, none, .st 1 (.t p44) (.t p41)⟩] [])) (.kill [p32, p33, p34, p35, p36, p37, p38, p39, p40, p41, p42, p43, p44] (.reg [⟨(some p27), none, .fad 0 (.t p1)⟩, ⟨(some p28), none, .ld none (.t p27)⟩, ⟨(some p29), none, .mov (.t p7)⟩, ⟨(some p30), none, .ias 1 (.t p28) (.t p29)⟩, ⟨(some p31), none, .ld none (.t p30)⟩, ⟨(some p7), none, .mov (.t p31)⟩] [])))))))))) (.kill [p6, p7, p26] (.reg [⟨(some p45), none, .bin .add (.t p20) (.c (.int .i64 1))⟩, ⟨(some p20), none, .mov (.t p45)⟩] [])))))))))) (.kill [p1, p18, p19, p20, p21, p26] (.seq (.reg [⟨(some p46), none, .mov (.t p5)⟩, ⟨(some p2), none, .mov (.t p46)⟩, ⟨(some p3), none, .mov (.c (.int .i64 0))⟩] []) .ret))))))))) }
def a53 : AFunc := { params := [p0], init := i19, results := [.tmp p2], body := (.seq (.reg [⟨(some p2), none, .mov (.c (.slice none 0 0))⟩] []) (.kill [p2] (.seq (.reg [⟨(some p3), none, .mov (.c (.slice none 0 0))⟩] []) (.seq (.seq (.reg [⟨(some p5), none, .mov (.t p0)⟩, ⟨(some p6), none, .cvt .u64 (.t p5)⟩, ⟨(some p4), none, .mov (.t p6)⟩] []) (.kill [p0, p5, p6] (.block 0 (.loop (.seq (.seq (.reg [⟨(some p7), none, .mov (.t p4)⟩, ⟨(some p8), none, .bin .neq (.t p7) (.c (.int .u64 0))⟩] []) (.kill [p7] (.cond (.t p8) .skip (.exit 0)))) (.kill [p8] (.seq (.block 1 (.reg [⟨(some p13), none, .mov (.t p3)⟩, ⟨(some p14), none, .mov (.t p4)⟩, ⟨(some p15), none, .call (.c (.func (.func 77) #[] #[])) [(.t p14)]⟩, ⟨(some p16), none, .bslice 1 1 [(.int .i64 0)] [(0, 1, (.t p15))]⟩, ⟨(some p17), none, .app 1 (.t p13) (.t p16)⟩, ⟨(some p3), none, .mov (.t p17)⟩] [])) (.kill [p13, p14, p15, p16, p17] (.reg [⟨(some p9), none, .mov (.t p4)⟩, ⟨(some p10), none, .mov (.t p4)⟩, ⟨(some p11), none, .bin .sub (.t p10) (.c (.int .u64 1))⟩, ⟨(some p12), none, .bin .and (.t p9) (.t p11)⟩, ⟨(some p4), none, .mov (.t p12)⟩] []))))))))) (.kill [p4, p8] (.seq (.reg [⟨(some p18), none, .mov (.t p3)⟩, ⟨(some p2), none, .mov (.t p18)⟩] []) .ret)))))) }
def a54 : AFunc := { params := [p0, p1], init := i28, results := [.cell (some 2) p4], body := (.seq (.reg [⟨(some p2), none, .box (.t p0)⟩, ⟨(some p3), none, .box (.t p1)⟩, ⟨(some p4), none, .zero [(.int .i64 0), (.int .i64 0)]⟩] []) (.kill [p0, p1] (.seq (.seq (.reg [⟨(some p5), none, .ld (some 2) (.t p2)⟩, ⟨(some p6), none, .ld (some 2) (.c (.pointer (some ⟨0, 0, none⟩)))⟩, ⟨(some p7), none, .eqs (.cells [.int, .int]) false (.t p5) (.t p6)⟩] []) (.kill [p5, p6] (.cond (.t p7) (.kill [p7] (.seq (.reg [⟨(some p8), none, .ld (some 2) (.t p3)⟩, ⟨(some p9), none, .call (.c (.func (.func 78) #[] #[])) [(.t p8)]⟩, ⟨none, none, .st 2 (.t p4) (.t p9)⟩] []) .ret)) .skip))) (.kill [p7] (.seq (.reg [⟨(some p10), none, .fad 0 (.t p2)⟩, ⟨(some p11), none, .ld none (.t p10)⟩, ⟨(some p12), none, .fad 1 (.t p3)⟩, ⟨(some p13), none, .ld none (.t p12)⟩, ⟨(some p14), none, .bin .mul (.t p11) (.t p13)⟩, ⟨(some p15), none, .fad 0 (.t p3)⟩, ⟨(some p16), none, .ld none (.t p15)⟩, ⟨(some p17), none, .fad 1 (.t p2)⟩, ⟨(some p18), none, .ld none (.t p17)⟩, ⟨(some p19), none, .bin .mul (.t p16) (.t p18)⟩, ⟨(some p20), none, .bin .add (.t p14) (.t p19)⟩, ⟨(some p21), none, .fad 1 (.t p2)⟩, ⟨(some p22), none, .ld none (.t p21)⟩, ⟨(some p23), none, .fad 1 (.t p3)⟩, ⟨(some p24), none, .ld none (.t p23)⟩, ⟨(some p25), none, .bin .mul (.t p22) (.t p24)⟩, ⟨(some p26), none, .build [(.int .i64 0), (.int .i64 0)] [(0, 1, (.t p20)), (1, 1, (.t p25))]⟩, ⟨(some p27), none, .call (.c (.func (.func 78) #[] #[])) [(.t p26)]⟩, ⟨none, none, .st 2 (.t p4) (.t p27)⟩] []) .ret))))) }
def a55 : AFunc := { params := [p0, p1], init := i32, results := [.tmp p4], body := (.seq (.reg [⟨(some p4), none, .mov (.c (.int .i64 0))⟩] []) (.kill [p4] (.seq (.reg [⟨(some p5), none, .mov (.c (.int .i64 0))⟩] []) (.seq (.seq (.reg [⟨(some p8), none, .mov (.t p0)⟩, ⟨(some p9), none, .nilchk (.t p8)⟩, ⟨(some p10), none, .fad 3 (.t p9)⟩, ⟨(some p11), none, .mov (.t p0)⟩, ⟨(some p12), none, .nilchk (.t p11)⟩, ⟨(some p13), none, .fad 0 (.t p12)⟩, ⟨(some p14), none, .fad 2 (.t p13)⟩, ⟨(some p15), none, .ld none (.t p14)⟩, ⟨(some p16), none, .len 1 (.t p15)⟩, ⟨(some p17), none, .slarr 7 1 (.t p10) none (some (.t p16)) none⟩, ⟨(some p18), none, .len 1 (.t p17)⟩, ⟨(some p19), none, .mov (.c (.int .i64 0))⟩] []) (.kill [p0, p8, p9, p10, p11, p12, p13, p14, p15, p16] (.block 0 (.loop (.seq (.reg [⟨(some p20), none, .bin .lss (.t p19) (.t p18)⟩] []) (.seq (.cond (.t p20) .skip (.exit 0)) (.kill [p20] (.seq (.block 1 (.seq (.reg [⟨(some p21), none, .ias 1 (.t p17) (.t p19)⟩, ⟨(some p22), none, .ld none (.t p21)⟩, ⟨(some p7), none, .mov (.t p22)⟩] []) (.kill [p21, p22] (.reg [⟨(some p23), none, .mov (.t p5)⟩, ⟨(some p24), none, .mov (.t p7)⟩, ⟨(some p25), none, .mov (.t p1)⟩, ⟨(some p26), none, .cvt .u64 (.t p25)⟩, ⟨(some p27), none, .bin .shr (.t p24) (.t p26)⟩, ⟨(some p28), none, .bin .and (.t p27) (.c (.int .i64 1))⟩, ⟨(some p29), none, .bin .add (.t p23) (.t p28)⟩, ⟨(some p5), none, .mov (.t p29)⟩] [])))) (.kill [p7, p23, p24, p25, p26, p27, p28, p29] (.reg [⟨(some p30), none, .bin .add (.t p19) (.c (.int .i64 1))⟩, ⟨(some p19), none, .mov (.t p30)⟩] [])))))))))) (.kill [p1, p17, p18, p19, p20] (.seq (.reg [⟨(some p31), none, .mov (.t p5)⟩, ⟨(some p4), none, .mov (.t p31)⟩] []) .ret)))))) }
def a56 : AFunc := { params := [p0], init := i22, results := [.tmp p2], body := (.seq (.reg [⟨(some p2), none, .mov (.c (.slice none 0 0))⟩] []) (.kill [p2] (.seq (.reg [⟨(some p3), none, .mov (.c (.slice none 0 0))⟩] []) (.seq (.seq (.reg [⟨(some p6), none, .mov (.t p0)⟩, ⟨(some p7), none, .len 1 (.t p6)⟩, ⟨(some p8), none, .mov (.c (.int .i64 0))⟩] []) (.kill [p0] (.block 0 (.loop (.seq (.reg [⟨(some p9), none, .bin .lss (.t p8) (.t p7)⟩] []) (.seq (.cond (.t p9) .skip (.exit 0)) (.kill [p9] (.seq (.block 1 (.seq (.reg [⟨(some p10), none, .ias 2 (.t p6) (.t p8)⟩, ⟨(some p11), none, .ld (some 2) (.t p10)⟩, ⟨(some p5), none, .zero [(.int .i64 0), (.int .i64 0)]⟩, ⟨none, none, .st 2 (.t p5) (.t p11)⟩] []) (.kill [p10, p11] (.reg [⟨(some p12), none, .mov (.t p3)⟩, ⟨(some p13), none, .fad 0 (.t p5)⟩, ⟨(some p14), none, .ld none (.t p13)⟩, ⟨(some p15), none, .fad 1 (.t p5)⟩, ⟨(some p16), none, .ld none (.t p15)⟩, ⟨(some p17), none, .build [(.int .i64 0), (.int .i64 0)] [(0, 1, (.t p14)), (1, 1, (.t p16))]⟩, ⟨(some p18), none, .bslice 1 2 [(.int .i64 0), (.int .i64 0)] [(0, 2, (.t p17))]⟩, ⟨(some p19), none, .app 2 (.t p12) (.t p18)⟩, ⟨(some p3), none, .mov (.t p19)⟩] [])))) (.kill [p5, p12, p13, p14, p15, p16, p17, p18, p19] (.reg [⟨(some p20), none, .bin .add (.t p8) (.c (.int .i64 1))⟩, ⟨(some p8), none, .mov (.t p20)⟩] [])))))))))) (.kill [p6, p7, p8, p9] (.seq (.reg [⟨(some p21), none, .mov (.t p3)⟩, ⟨(some p2), none, .mov (.t p21)⟩] []) .ret)))))) }
def a57 : AFunc := { params := [p0], init := i12, results := [.tmp p2], body := (.seq (.reg [⟨(some p2), none, .mov (.c (.int .i64 0))⟩] []) (.kill [p2] (.seq (.reg [⟨(some p3), none, .mov (.t p0)⟩, ⟨(some p4), none, .nilchk (.t p3)⟩, ⟨(some p5), none, .fad 0 (.t p4)⟩, ⟨(some p6), none, .fad 2 (.t p5)⟩, ⟨(some p7), none, .ld none (.t p6)⟩, ⟨(some p8), none, .len 1 (.t p7)⟩, ⟨(some p9), none, .cvt .u64 (.t p8)⟩, ⟨(some p10), none, .bin .shl (.c (.int .i64 1)) (.t p9)⟩, ⟨(some p11), none, .bin .sub (.t p10) (.c (.int .i64 1))⟩, ⟨(some p2), none, .mov (.t p11)⟩] []) .ret))) }
def a58 : AFunc := { params := [p0, p1], init := i39, results := [.tmp p4], body := (.seq (.reg [⟨(some p4), none, .mov (.c (.slice none 0 0))⟩] []) (.kill [p4] (.seq (.reg [⟨(some p9), none, .mov (.t p1)⟩, ⟨(some p10), none, .len 1 (.t p9)⟩, ⟨(some p11), none, .mks 1 8 [(.int .i64 0)] (.t p10) (.t p10)⟩, ⟨(some p5), none, .mov (.t p11)⟩] []) (.kill [p9, p10, p11] (.seq (.reg [⟨(some p6), none, .mov (.c (.int .i64 0))⟩] []) (.seq (.seq (.reg [⟨(some p12), none, .mov (.t p1)⟩, ⟨(some p13), none, .len 1 (.t p12)⟩, ⟨(some p14), none, .mov (.c (.int .i64 0))⟩] []) (.kill [p1] (.block 0 (.loop (.seq (.reg [⟨(some p15), none, .bin .lss (.t p14) (.t p13)⟩] []) (.seq (.cond (.t p15) .skip (.exit 0)) (.kill [p15] (.seq (.block 1 (.seq (.reg [⟨(some p16), none, .ias 1 (.t p12) (.t p14)⟩, ⟨(some p17), none, .ld none (.t p16)⟩, ⟨(some p8), none, .mov (.t p17)⟩] []) (.kill [p16, p17] (.seq (.reg [⟨(some p18), none, .mov (.t p5)⟩, ⟨(some p19), none, .mov (.t p8)⟩, ⟨(some p20), none, .mov (.t p0)⟩, ⟨(some p21), none, .mov (.t p6)⟩, ⟨(some p22), none, .mov (.t p8)⟩, ⟨(some p23), none, .cvt .u64 (.t p22)⟩, ⟨(some p24), none, .bin .shl (.c (.int .i64 1)) (.t p23)⟩, ⟨(some p25), none, .bin .or (.t p21) (.t p24)⟩, ⟨(some p26), none, .call (.c (.func (.func 68) #[] #[])) [(.t p20), (.t p25)]⟩, ⟨(some p27), none, .mov (.t p0)⟩, ⟨(some p28), none, .mov (.t p6)⟩, ⟨(some p29), none, .call (.c (.func (.func 68) #[] #[])) [(.t p27), (.t p28)]⟩, ⟨(some p30), none, .bin .sub (.t p26) (.t p29)⟩, ⟨(some p31), none, .ias 1 (.t p18) (.t p19)⟩, ⟨none, none, .st 1 (.t p31) (.t p30)⟩] []) (.kill [p18, p19, p20, p21, p22, p23, p24, p25, p26, p27, p28, p29, p30, p31] (.reg [⟨(some p32), none, .mov (.t p6)⟩, ⟨(some p33), none, .mov (.t p8)⟩, ⟨(some p34), none, .cvt .u64 (.t p33)⟩, ⟨(some p35), none, .bin .shl (.c (.int .i64 1)) (.t p34)⟩, ⟨(some p36), none, .bin .or (.t p32) (.t p35)⟩, ⟨(some p6), none, .mov (.t p36)⟩] [])))))) (.kill [p8, p32, p33, p34, p35, p36] (.reg [⟨(some p37), none, .bin .add (.t p14) (.c (.int .i64 1))⟩, ⟨(some p14), none, .mov (.t p37)⟩] [])))))))))) (.kill [p0, p6, p12, p13, p14, p15] (.seq (.reg [⟨(some p38), none, .mov (.t p5)⟩, ⟨(some p4), none, .mov (.t p38)⟩] []) .ret)))))))) }
def a61 : AFunc := { params := [p0, p1], init := i15, results := [.tmp p4], body := (.seq (.reg [⟨(some p4), none, .mov (.c (.int .i64 0))⟩] []) (.kill [p4] (.seq (.block 0 (.loop (.seq (.seq (.reg [⟨(some p5), none, .mov (.t p1)⟩, ⟨(some p6), none, .bin .neq (.t p5) (.c (.int .i64 0))⟩] []) (.kill [p5] (.cond (.t p6) .skip (.exit 0)))) (.kill [p6] (.block 1 (.reg [⟨(some p7), none, .mov (.t p1)⟩, ⟨(some p8), none, .mov (.t p0)⟩, ⟨(some p9), none, .mov (.t p1)⟩, ⟨(some p10), none, .bin .rem (.t p8) (.t p9)⟩, ⟨(some p0), none, .mov (.t p7)⟩, ⟨(some p1), none, .mov (.t p10)⟩] [])))))) (.kill [p1, p6] (.seq (.reg [⟨(some p11), none, .mov (.t p0)⟩, ⟨(some p12), none, .mov (.t p0)⟩, ⟨(some p13), none, .un .neg (.t p12)⟩, ⟨(some p14), none, .max (.t p11) [(.t p13)]⟩, ⟨(some p4), none, .mov (.t p14)⟩] []) .ret))))) }
def a62 : AFunc := { params := [p0, p1, p2], init := i40, results := [.tmp p6], body := (.seq (.reg [⟨(some p6), none, .mov (.c (.int .i64 0))⟩] []) (.kill [p6] (.seq (.reg [⟨(some p7), none, .mov (.c (.slice none 0 0))⟩] []) (.seq (.seq (.reg [⟨(some p10), none, .mov (.t p2)⟩, ⟨(some p11), none, .call (.c (.func (.func 53) #[] #[])) [(.t p10)]⟩, ⟨(some p12), none, .len 1 (.t p11)⟩, ⟨(some p13), none, .mov (.c (.int .i64 0))⟩] []) (.kill [p10] (.block 0 (.loop (.seq (.reg [⟨(some p14), none, .bin .lss (.t p13) (.t p12)⟩] []) (.seq (.cond (.t p14) .skip (.exit 0)) (.kill [p14] (.seq (.block 1 (.seq (.reg [⟨(some p15), none, .ias 1 (.t p11) (.t p13)⟩, ⟨(some p16), none, .ld none (.t p15)⟩, ⟨(some p9), none, .mov (.t p16)⟩] []) (.kill [p15, p16] (.reg [⟨(some p17), none, .mov (.t p7)⟩, ⟨(some p18), none, .mov (.t p1)⟩, ⟨(some p19), none, .mov (.t p9)⟩, ⟨(some p20), none, .ias 2 (.t p18) (.t p19)⟩, ⟨(some p21), none, .iad 2 1 (.t p20) (.c (.int .i64 0))⟩, ⟨(some p22), none, .ld none (.t p21)⟩, ⟨(some p23), none, .mov (.t p1)⟩, ⟨(some p24), none, .mov (.t p9)⟩, ⟨(some p25), none, .ias 2 (.t p23) (.t p24)⟩, ⟨(some p26), none, .iad 2 1 (.t p25) (.c (.int .i64 1))⟩, ⟨(some p27), none, .ld none (.t p26)⟩, ⟨(some p28), none, .bin .quo (.c (.int .i64 5040)) (.t p27)⟩, ⟨(some p29), none, .bin .mul (.t p22) (.t p28)⟩, ⟨(some p30), none, .bslice 1 1 [(.int .i64 0)] [(0, 1, (.t p29))]⟩, ⟨(some p31), none, .app 1 (.t p17) (.t p30)⟩, ⟨(some p7), none, .mov (.t p31)⟩] [])))) (.kill [p9, p17, p18, p19, p20, p21, p22, p23, p24, p25, p26, p27, p28, p29, p30, p31] (.reg [⟨(some p32), none, .bin .add (.t p13) (.c (.int .i64 1))⟩, ⟨(some p13), none, .mov (.t p32)⟩] [])))))))))) (.kill [p1, p11, p12, p13, p14] (.seq (.reg [⟨(some p33), none, .mov (.t p7)⟩, ⟨(some p34), none, .call (.c (.func (.func 79) #[] #[])) [(.t p33)]⟩, ⟨(some p35), none, .mov (.t p0)⟩, ⟨(some p36), none, .mov (.t p2)⟩, ⟨(some p37), none, .call (.c (.func (.func 68) #[] #[])) [(.t p35), (.t p36)]⟩, ⟨(some p38), none, .bin .mul (.c (.int .i64 5040)) (.t p37)⟩, ⟨(some p39), none, .bin .sub (.t p34) (.t p38)⟩, ⟨(some p6), none, .mov (.t p39)⟩] []) .ret)))))) }
def a63 : AFunc := { params := [p0, p1], init := i9, results := [.tmp p4], body := (.seq (.reg [⟨(some p4), none, .mov (.c (.bool false))⟩] []) (.kill [p4] (.seq (.reg [⟨(some p5), none, .mov (.t p0)⟩, ⟨(some p6), none, .mov (.t p1)⟩, ⟨(some p7), none, .call (.c (.func (.func 80) #[] #[])) [(.t p5), (.t p6)]⟩, ⟨(some p8), none, .bin .geq (.t p7) (.c (.int .i64 0))⟩, ⟨(some p4), none, .mov (.t p8)⟩] []) .ret))) }
def a64 : AFunc := { params := [p0], init := i6, results := [.tmp p2], body := (.seq (.reg [⟨(some p1), none, .box (.t p0)⟩, ⟨(some p2), none, .mov (.c (.bool false))⟩] []) (.kill [p0, p2] (.seq (.reg [⟨(some p3), none, .iad 2 1 (.t p1) (.c (.int .i64 0))⟩, ⟨(some p4), none, .ld none (.t p3)⟩, ⟨(some p5), none, .bin .lss (.t p4) (.c (.int .i64 0))⟩, ⟨(some p2), none, .mov (.t p5)⟩] []) .ret))) }
def a66 : AFunc := { params := [p0, p1], init := i60, results := [.tmp p4], body := (.seq (.reg [⟨(some p3), none, .box (.t p1)⟩, ⟨(some p4), none, .mov (.c (.slice none 0 0))⟩] []) (.kill [p1, p4] (.seq (.reg [⟨(some p14), none, .mov (.t p0)⟩, ⟨(some p15), none, .nilchk (.t p14)⟩, ⟨(some p16), none, .fad 0 (.t p15)⟩, ⟨(some p17), none, .fad 2 (.t p16)⟩, ⟨(some p18), none, .ld none (.t p17)⟩, ⟨(some p19), none, .len 1 (.t p18)⟩, ⟨(some p5), none, .mov (.t p19)⟩] []) (.kill [p0, p14, p15, p16, p17, p18, p19] (.seq (.reg [⟨(some p20), none, .mov (.t p5)⟩, ⟨(some p21), none, .mks 1 8 [(.int .i64 0)] (.t p20) (.t p20)⟩, ⟨(some p6), none, .zero [(.slice none 0 0)]⟩, ⟨none, none, .st 1 (.t p6) (.t p21)⟩] []) (.kill [p20, p21] (.seq (.reg [⟨(some p7), none, .zero [(.int .i64 0)]⟩, ⟨none, none, .st 1 (.t p7) (.c (.int .i64 0))⟩] []) (.seq (.seq (.reg [⟨(some p22), none, .mov (.t p5)⟩, ⟨(some p23), none, .call (.c (.func (.func 81) #[] #[])) [(.t p22)]⟩] []) (.kill [p5, p22] (.block 0 (.rangeF (.t p23) [p24] (.reg [⟨(some p8), none, .mov (.t p24)⟩] []) (.block 1 (.seq (.reg [⟨(some p25), none, .ld none (.t p7)⟩, ⟨(some p26), none, .bin .add (.t p25) (.c (.int .i64 1))⟩, ⟨none, none, .st 1 (.t p7) (.t p26)⟩] []) (.seq (.reg [⟨(some p27), none, .ld none (.t p3)⟩, ⟨(some p28), none, .mov (.t p8)⟩, ⟨(some p29), none, .call (.t p27) [(.t p28)]⟩, ⟨(some p30), none, .len 1 (.t p29)⟩, ⟨(some p31), none, .mov (.c (.int .i64 0))⟩] []) (.block 2 (.loop (.seq (.reg [⟨(some p32), none, .bin .lss (.t p31) (.t p30)⟩] []) (.seq (.cond (.t p32) .skip (.exit 2)) (.seq (.block 3 (.seq (.reg [⟨(some p33), none, .mov (.t p31)⟩, ⟨(some p34), none, .ias 1 (.t p29) (.t p31)⟩, ⟨(some p35), none, .ld none (.t p34)⟩, ⟨(some p9), none, .mov (.t p33)⟩, ⟨(some p10), none, .mov (.t p35)⟩] []) (.reg [⟨(some p36), none, .ld none (.t p6)⟩, ⟨(some p37), none, .mov (.t p9)⟩, ⟨(some p38), none, .ias 1 (.t p36) (.t p37)⟩, ⟨(some p39), none, .ld none (.t p38)⟩, ⟨(some p40), none, .mov (.t p10)⟩, ⟨(some p41), none, .bin .add (.t p39) (.t p40)⟩, ⟨(some p42), none, .ias 1 (.t p36) (.t p37)⟩, ⟨none, none, .st 1 (.t p42) (.t p41)⟩] []))) (.reg [⟨(some p43), none, .bin .add (.t p31) (.c (.int .i64 1))⟩, ⟨(some p31), none, .mov (.t p43)⟩] []))))))))))))) (.seq (.reg [⟨(some p11), none, .mov (.c (.slice none 0 0))⟩] []) (.seq (.seq (.reg [⟨(some p44), none, .ld none (.t p6)⟩, ⟨(some p45), none, .len 1 (.t p44)⟩, ⟨(some p46), none, .mov (.c (.int .i64 0))⟩] []) (.kill [p6] (.block 4 (.loop (.seq (.reg [⟨(some p47), none, .bin .lss (.t p46) (.t p45)⟩] []) (.seq (.cond (.t p47) .skip (.exit 4)) (.kill [p47] (.seq (.block 5 (.seq (.reg [⟨(some p48), none, .ias 1 (.t p44) (.t p46)⟩, ⟨(some p49), none, .ld none (.t p48)⟩, ⟨(some p13), none, .mov (.t p49)⟩] []) (.kill [p48, p49] (.reg [⟨(some p50), none, .mov (.t p11)⟩, ⟨(some p51), none, .mov (.t p13)⟩, ⟨(some p52), none, .ld none (.t p7)⟩, ⟨(some p53), none, .build [(.int .i64 0), (.int .i64 0)] [(0, 1, (.t p51)), (1, 1, (.t p52))]⟩, ⟨(some p54), none, .call (.c (.func (.func 78) #[] #[])) [(.t p53)]⟩, ⟨(some p55), none, .bslice 1 2 [(.int .i64 0), (.int .i64 0)] [(0, 2, (.t p54))]⟩, ⟨(some p56), none, .app 2 (.t p50) (.t p55)⟩, ⟨(some p11), none, .mov (.t p56)⟩] [])))) (.kill [p13, p50, p51, p52, p53, p54, p55, p56] (.reg [⟨(some p57), none, .bin .add (.t p46) (.c (.int .i64 1))⟩, ⟨(some p46), none, .mov (.t p57)⟩] [])))))))))) (.kill [p7, p44, p45, p46, p47] (.seq (.reg [⟨(some p58), none, .mov (.t p11)⟩, ⟨(some p59), none, .call (.c (.func (.func 56) #[] #[])) [(.t p58)]⟩, ⟨(some p4), none, .mov (.t p59)⟩] []) .ret)))))))))))) }
def a67 : AFunc := { params := [p0, p1, p2], init := i33, results := [.tmp p4], body := (.seq (.reg [⟨(some p4), none, .mov (.c (.slice none 0 0))⟩] []) (.kill [p4] (.seq (.reg [⟨(some p9), none, .mov (.t p0)⟩, ⟨(some p10), none, .len 1 (.t p9)⟩, ⟨(some p11), none, .mks 1 8 [(.int .i64 0)] (.t p10) (.t p10)⟩, ⟨(some p5), none, .mov (.t p11)⟩] []) (.kill [p9, p10, p11] (.seq (.reg [⟨(some p6), none, .mov (.c (.int .i64 0))⟩] []) (.seq (.seq (.reg [⟨(some p12), none, .mov (.t p0)⟩, ⟨(some p13), none, .len 1 (.t p12)⟩, ⟨(some p14), none, .mov (.c (.int .i64 0))⟩] []) (.kill [p0] (.block 0 (.loop (.seq (.reg [⟨(some p15), none, .bin .lss (.t p14) (.t p13)⟩] []) (.seq (.cond (.t p15) .skip (.exit 0)) (.kill [p15] (.seq (.block 1 (.seq (.reg [⟨(some p16), none, .ias 1 (.t p12) (.t p14)⟩, ⟨(some p17), none, .ld none (.t p16)⟩, ⟨(some p8), none, .mov (.t p17)⟩] []) (.kill [p16, p17] (.seq (.reg [⟨(some p18), none, .mov (.t p6)⟩, ⟨(some p19), none, .mov (.t p8)⟩, ⟨(some p20), none, .cvt .u64 (.t p19)⟩, ⟨(some p21), none, .bin .shl (.c (.int .i64 1)) (.t p20)⟩, ⟨(some p22), none, .bin .or (.t p18) (.t p21)⟩, ⟨(some p6), none, .mov (.t p22)⟩] []) (.kill [p18, p19, p20, p21, p22] (.seq (.reg [⟨(some p23), none, .ld none (.t p1)⟩, ⟨(some p24), none, .mov (.t p6)⟩, ⟨(some p25), none, .call (.c (.func (.func 68) #[] #[])) [(.t p23), (.t p24)]⟩, ⟨(some p26), none, .ld none (.t p2)⟩, ⟨(some p27), none, .bin .gtr (.t p25) (.t p26)⟩] [(3, [2])]) (.kill [p23, p24, p25, p26] (.cond (.t p27) (.kill [p27] (.seq (.reg [⟨(some p28), none, .mov (.t p5)⟩, ⟨(some p29), none, .mov (.t p8)⟩, ⟨(some p30), none, .ias 1 (.t p28) (.t p29)⟩, ⟨none, none, .st 1 (.t p30) (.c (.int .i64 1))⟩] []) (.kill [p8, p28, p29, p30] (.exit 0)))) .skip)))))))) (.kill [p27] (.reg [⟨(some p31), none, .bin .add (.t p14) (.c (.int .i64 1))⟩, ⟨(some p14), none, .mov (.t p31)⟩] [])))))))))) (.kill [p1, p2, p6, p12, p13, p14, p15] (.seq (.reg [⟨(some p32), none, .mov (.t p5)⟩, ⟨(some p4), none, .mov (.t p32)⟩] []) .ret)))))))) }
def a68 : AFunc := { params := [p0, p1], init := i72, results := [.tmp p4], body := (.seq (.reg [⟨(some p4), none, .mov (.c (.int .i64 0))⟩] []) (.kill [p4] (.seq (.seq (.reg [⟨(some p14), none, .mov (.t p0)⟩, ⟨(some p15), none, .nilchk (.t p14)⟩, ⟨(some p16), none, .fad 10 (.t p15)⟩, ⟨(some p17), none, .ld none (.t p16)⟩, ⟨(some p18), none, .mov (.t p1)⟩, ⟨(some p19), none, .look true [.int] (.int .i64 0) (.t p17) (.t p18)⟩, ⟨(some p13), none, .mov (.t p19)⟩, ⟨(some p20), none, .ext 0 (.t p13)⟩, ⟨(some p21), none, .ext 1 (.t p13)⟩, ⟨(some p5), none, .mov (.t p20)⟩, ⟨(some p6), none, .mov (.t p21)⟩] []) (.kill [p13, p14, p15, p16, p17, p18, p19, p20, p21] (.seq (.reg [⟨(some p22), none, .mov (.t p6)⟩] []) (.kill [p6] (.cond (.t p22) (.kill [p22] (.seq (.reg [⟨(some p23), none, .mov (.t p5)⟩, ⟨(some p4), none, .mov (.t p23)⟩] []) .ret)) .skip))))) (.kill [p22] (.seq (.reg [⟨(some p7), none, .mov (.c (.int .i64 0))⟩] []) (.seq (.seq (.reg [⟨(some p24), none, .mov (.t p1)⟩, ⟨(some p25), none, .call (.c (.func (.func 53) #[] #[])) [(.t p24)]⟩, ⟨(some p26), none, .len 1 (.t p25)⟩, ⟨(some p27), none, .mov (.c (.int .i64 0))⟩] []) (.kill [p24] (.block 0 (.loop (.seq (.reg [⟨(some p28), none, .bin .lss (.t p27) (.t p26)⟩] []) (.seq (.cond (.t p28) .skip (.exit 0)) (.kill [p28] (.seq (.block 1 (.seq (.reg [⟨(some p29), none, .ias 1 (.t p25) (.t p27)⟩, ⟨(some p30), none, .ld none (.t p29)⟩, ⟨(some p9), none, .mov (.t p30)⟩] []) (.kill [p29, p30] (.reg [⟨(some p31), none, .mov (.t p7)⟩, ⟨(some p32), none, .mov (.t p0)⟩, ⟨(some p33), none, .mov (.t p9)⟩, ⟨(some p34), none, .nilchk (.t p32)⟩, ⟨(some p35), none, .fad 3 (.t p34)⟩, ⟨(some p36), none, .iad 7 1 (.t p35) (.t p33)⟩, ⟨(some p37), none, .ld none (.t p36)⟩, ⟨(some p38), none, .bin .or (.t p31) (.t p37)⟩, ⟨(some p7), none, .mov (.t p38)⟩] [])))) (.kill [p9, p31, p32, p33, p34, p35, p36, p37, p38] (.reg [⟨(some p39), none, .bin .add (.t p27) (.c (.int .i64 1))⟩, ⟨(some p27), none, .mov (.t p39)⟩] [])))))))))) (.kill [p25, p26, p27, p28] (.seq (.reg [⟨(some p10), none, .mov (.c (.slice none 0 0))⟩] []) (.seq (.seq (.reg [⟨(some p40), none, .mov (.t p7)⟩, ⟨(some p41), none, .call (.c (.func (.func 53) #[] #[])) [(.t p40)]⟩, ⟨(some p42), none, .len 1 (.t p41)⟩, ⟨(some p43), none, .mov (.c (.int .i64 0))⟩] []) (.kill [p7, p40] (.block 2 (.loop (.seq (.reg [⟨(some p44), none, .bin .lss (.t p43) (.t p42)⟩] []) (.seq (.cond (.t p44) .skip (.exit 2)) (.kill [p44] (.seq (.block 3 (.seq (.reg [⟨(some p45), none, .ias 1 (.t p41) (.t p43)⟩, ⟨(some p46), none, .ld none (.t p45)⟩, ⟨(some p12), none, .mov (.t p46)⟩] []) (.kill [p45, p46] (.reg [⟨(some p47), none, .mov (.t p10)⟩, ⟨(some p48), none, .mov (.t p0)⟩, ⟨(some p49), none, .nilchk (.t p48)⟩, ⟨(some p50), none, .fad 0 (.t p49)⟩, ⟨(some p51), none, .fad 1 (.t p50)⟩, ⟨(some p52), none, .ld none (.t p51)⟩, ⟨(some p53), none, .mov (.t p12)⟩, ⟨(some p54), none, .ias 1 (.t p52) (.t p53)⟩, ⟨(some p55), none, .ld none (.t p54)⟩, ⟨(some p56), none, .bslice 1 1 [(.int .i64 0)] [(0, 1, (.t p55))]⟩, ⟨(some p57), none, .app 1 (.t p47) (.t p56)⟩, ⟨(some p10), none, .mov (.t p57)⟩] [])))) (.kill [p12, p47, p48, p49, p50, p51, p52, p53, p54, p55, p56, p57] (.reg [⟨(some p58), none, .bin .add (.t p43) (.c (.int .i64 1))⟩, ⟨(some p43), none, .mov (.t p58)⟩] [])))))))))) (.kill [p41, p42, p43, p44] (.seq (.reg [⟨(some p59), none, .mov (.t p0)⟩, ⟨(some p60), none, .nilchk (.t p59)⟩, ⟨(some p61), none, .fad 10 (.t p60)⟩, ⟨(some p62), none, .ld none (.t p61)⟩, ⟨(some p63), none, .mov (.t p1)⟩, ⟨(some p64), none, .mov (.t p10)⟩, ⟨(some p65), none, .call (.c (.func (.func 71) #[] #[])) [(.t p64)]⟩, ⟨none, none, .mset [.int] (.t p62) (.t p63) (.t p65)⟩] [(3, [7])]) (.kill [p10, p59, p60, p61, p62, p63, p64, p65] (.seq (.reg [⟨(some p66), none, .mov (.t p0)⟩, ⟨(some p67), none, .nilchk (.t p66)⟩, ⟨(some p68), none, .fad 10 (.t p67)⟩, ⟨(some p69), none, .ld none (.t p68)⟩, ⟨(some p70), none, .mov (.t p1)⟩, ⟨(some p71), none, .look false [.int] (.int .i64 0) (.t p69) (.t p70)⟩, ⟨(some p4), none, .mov (.t p71)⟩] []) .ret))))))))))))) }
def a70 : AFunc := { params := [p0, p1], init := i25, results := [.tmp p4, .tmp p5], body := (.seq (.reg [⟨(some p2), none, .box (.t p0)⟩, ⟨(some p4), none, .mov (.c (.pointer none))⟩, ⟨(some p5), none, .mov (.c (.int .i64 0))⟩] []) (.kill [p0, p4, p5] (.seq (.reg [⟨(some p9), none, .ld (some 3) (.t p2)⟩, ⟨(some p10), none, .call (.c (.func (.func 52) #[] #[])) [(.t p9)]⟩, ⟨(some p8), none, .mov (.t p10)⟩, ⟨(some p11), none, .ext 0 (.t p8)⟩, ⟨(some p12), none, .ext 1 (.t p8)⟩, ⟨(some p6), none, .mov (.t p11)⟩, ⟨(some p7), none, .mov (.t p12)⟩] []) (.kill [p2, p8, p9, p10, p11, p12] (.seq (.seq (.reg [⟨(some p13), none, .mov (.t p7)⟩, ⟨(some p14), none, .bin .neq (.t p13) (.c (.int .i64 0))⟩] []) (.kill [p13] (.cond (.t p14) (.kill [p14] (.seq (.reg [⟨(some p15), none, .mov (.t p7)⟩, ⟨(some p4), none, .mov (.c (.pointer none))⟩, ⟨(some p5), none, .mov (.t p15)⟩] []) .ret)) .skip))) (.kill [p14] (.seq (.seq (.reg [⟨(some p16), none, .mov (.t p1)⟩, ⟨(some p17), none, .bin .lss (.t p16) (.c (.int .i64 0))⟩, ⟨(some p18), none, .mov (.t p17)⟩, ⟨(some p19), (some (p18, false)), .mov (.t p1)⟩, ⟨(some p20), (some (p18, false)), .mov (.t p6)⟩, ⟨(some p21), (some (p18, false)), .call (.c (.func (.func 57) #[] #[])) [(.t p20)]⟩, ⟨(some p22), (some (p18, false)), .bin .gtr (.t p19) (.t p21)⟩, ⟨(some p23), none, .pick (.t p18) (.c (.bool true)) (.t p22)⟩] []) (.kill [p1, p16, p17, p18, p19, p20, p21, p22] (.cond (.t p23) (.kill [p23] (.seq (.reg [⟨(some p4), none, .mov (.c (.pointer none))⟩, ⟨(some p5), none, .mov (.c (.int .i64 1))⟩] []) .ret)) .skip))) (.kill [p23] (.seq (.reg [⟨(some p24), none, .mov (.t p6)⟩, ⟨(some p4), none, .mov (.t p24)⟩, ⟨(some p5), none, .mov (.c (.int .i64 0))⟩] []) .ret))))))))) }
def a71 : AFunc := { params := [p0], init := i17, results := [.tmp p2], body := (.seq (.reg [⟨(some p2), none, .mov (.c (.int .i64 0))⟩] []) (.kill [p2] (.seq (.reg [⟨(some p3), none, .mov (.c (.int .i64 0))⟩] []) (.seq (.seq (.reg [⟨(some p6), none, .mov (.t p0)⟩, ⟨(some p7), none, .len 1 (.t p6)⟩, ⟨(some p8), none, .mov (.c (.int .i64 0))⟩] []) (.kill [p0] (.block 0 (.loop (.seq (.reg [⟨(some p9), none, .bin .lss (.t p8) (.t p7)⟩] []) (.seq (.cond (.t p9) .skip (.exit 0)) (.kill [p9] (.seq (.block 1 (.seq (.reg [⟨(some p10), none, .ias 1 (.t p6) (.t p8)⟩, ⟨(some p11), none, .ld none (.t p10)⟩, ⟨(some p5), none, .mov (.t p11)⟩] []) (.kill [p10, p11] (.reg [⟨(some p12), none, .mov (.t p3)⟩, ⟨(some p13), none, .mov (.t p5)⟩, ⟨(some p14), none, .bin .add (.t p12) (.t p13)⟩, ⟨(some p3), none, .mov (.t p14)⟩] [])))) (.kill [p5, p12, p13, p14] (.reg [⟨(some p15), none, .bin .add (.t p8) (.c (.int .i64 1))⟩, ⟨(some p8), none, .mov (.t p15)⟩] [])))))))))) (.kill [p6, p7, p8, p9] (.seq (.reg [⟨(some p16), none, .mov (.t p3)⟩, ⟨(some p2), none, .mov (.t p16)⟩] []) .ret)))))) }
def a75 : AFunc := { params := [p0, p1], init := i9, results := [.tmp p4], body := (.seq (.reg [⟨(some p4), none, .mov (.c (.bool false))⟩] []) (.kill [p4] (.seq (.reg [⟨(some p5), none, .mov (.t p0)⟩, ⟨(some p6), none, .mov (.t p1)⟩, ⟨(some p7), none, .call (.c (.func (.func 82) #[] #[])) [(.t p5), (.t p6)]⟩, ⟨(some p8), none, .bin .geq (.t p7) (.c (.int .i64 0))⟩, ⟨(some p4), none, .mov (.t p8)⟩] []) .ret))) }
def a76 : AFunc := { params := [p0, p1], init := i11, results := [.tmp p3], body := (.seq (.reg [⟨(some p3), none, .mov (.c (.bool false))⟩] []) (.kill [p3] (.seq (.reg [⟨(some p4), none, .mov (.t p0)⟩, ⟨(some p5), none, .bin .lss (.t p4) (.c (.int .i64 0))⟩, ⟨(some p6), none, .mov (.t p5)⟩, ⟨(some p7), (some (p6, false)), .mov (.t p0)⟩, ⟨(some p8), (some (p6, false)), .ld none (.t p1)⟩, ⟨(some p9), (some (p6, false)), .bin .geq (.t p7) (.t p8)⟩, ⟨(some p10), none, .pick (.t p6) (.c (.bool true)) (.t p9)⟩, ⟨(some p3), none, .mov (.t p10)⟩] []) .ret))) }
def a77 : AFunc := { params := [p0], init := i8, results := [.tmp p2], body := (.seq (.reg [⟨(some p2), none, .mov (.c (.int .i64 0))⟩] []) (.kill [p2] (.seq (.cond (.c (.bool false)) (.seq (.reg [⟨(some p3), none, .mov (.t p0)⟩, ⟨(some p4), none, .cvt .u32 (.t p3)⟩, ⟨(some p5), none, .call (.c (.func (.func 83) #[] #[])) [(.t p4)]⟩, ⟨(some p2), none, .mov (.t p5)⟩] []) .ret) .skip) (.seq (.reg [⟨(some p6), none, .mov (.t p0)⟩, ⟨(some p7), none, .call (.c (.func (.func 84) #[] #[])) [(.t p6)]⟩, ⟨(some p2), none, .mov (.t p7)⟩] []) .ret)))) }
def a78 : AFunc := { params := [p0], init := i18, results := [.cell (some 2) p2], body := (.seq (.reg [⟨(some p1), none, .box (.t p0)⟩, ⟨(some p2), none, .zero [(.int .i64 0), (.int .i64 0)]⟩] []) (.kill [p0] (.seq (.reg [⟨(some p4), none, .fad 0 (.t p1)⟩, ⟨(some p5), none, .ld none (.t p4)⟩, ⟨(some p6), none, .fad 1 (.t p1)⟩, ⟨(some p7), none, .ld none (.t p6)⟩, ⟨(some p8), none, .call (.c (.func (.func 61) #[] #[])) [(.t p5), (.t p7)]⟩, ⟨(some p3), none, .mov (.t p8)⟩] []) (.kill [p4, p5, p6, p7, p8] (.seq (.reg [⟨(some p9), none, .fad 0 (.t p1)⟩, ⟨(some p10), none, .ld none (.t p9)⟩, ⟨(some p11), none, .mov (.t p3)⟩, ⟨(some p12), none, .bin .quo (.t p10) (.t p11)⟩, ⟨(some p13), none, .fad 1 (.t p1)⟩, ⟨(some p14), none, .ld none (.t p13)⟩, ⟨(some p15), none, .mov (.t p3)⟩, ⟨(some p16), none, .bin .quo (.t p14) (.t p15)⟩, ⟨(some p17), none, .build [(.int .i64 0), (.int .i64 0)] [(0, 1, (.t p12)), (1, 1, (.t p16))]⟩, ⟨none, none, .st 2 (.t p2) (.t p17)⟩] []) .ret))))) }
def a79 : AFunc := { params := [p0], init := i17, results := [.tmp p2], body := (.seq (.reg [⟨(some p2), none, .mov (.c (.int .i64 0))⟩] []) (.kill [p2] (.seq (.reg [⟨(some p3), none, .mov (.c (.int .i64 0))⟩] []) (.seq (.seq (.reg [⟨(some p6), none, .mov (.t p0)⟩, ⟨(some p7), none, .len 1 (.t p6)⟩, ⟨(some p8), none, .mov (.c (.int .i64 0))⟩] []) (.kill [p0] (.block 0 (.loop (.seq (.reg [⟨(some p9), none, .bin .lss (.t p8) (.t p7)⟩] []) (.seq (.cond (.t p9) .skip (.exit 0)) (.kill [p9] (.seq (.block 1 (.seq (.reg [⟨(some p10), none, .ias 1 (.t p6) (.t p8)⟩, ⟨(some p11), none, .ld none (.t p10)⟩, ⟨(some p5), none, .mov (.t p11)⟩] []) (.kill [p10, p11] (.reg [⟨(some p12), none, .mov (.t p3)⟩, ⟨(some p13), none, .mov (.t p5)⟩, ⟨(some p14), none, .bin .add (.t p12) (.t p13)⟩, ⟨(some p3), none, .mov (.t p14)⟩] [])))) (.kill [p5, p12, p13, p14] (.reg [⟨(some p15), none, .bin .add (.t p8) (.c (.int .i64 1))⟩, ⟨(some p8), none, .mov (.t p15)⟩] [])))))))))) (.kill [p6, p7, p8, p9] (.seq (.reg [⟨(some p16), none, .mov (.t p3)⟩, ⟨(some p2), none, .mov (.t p16)⟩] []) .ret)))))) }
def a80 : AFunc := { params := [p0, p1], init := i19, results := [.tmp p4], body := (.seq (.reg [⟨(some p4), none, .mov (.c (.int .i64 0))⟩] []) (.kill [p4] (.seq (.seq (.reg [⟨(some p6), none, .mov (.t p0)⟩, ⟨(some p7), none, .len 1 (.t p6)⟩, ⟨(some p8), none, .mov (.c (.int .i64 0))⟩] []) (.kill [p6] (.block 0 (.loop (.seq (.reg [⟨(some p9), none, .bin .lss (.t p8) (.t p7)⟩] []) (.seq (.cond (.t p9) .skip (.exit 0)) (.kill [p9] (.seq (.block 1 (.seq (.reg [⟨(some p10), none, .mov (.t p8)⟩, ⟨(some p5), none, .mov (.t p10)⟩] []) (.kill [p10] (.seq (.reg [⟨(some p11), none, .mov (.t p1)⟩, ⟨(some p12), none, .mov (.t p0)⟩, ⟨(some p13), none, .mov (.t p5)⟩, ⟨(some p14), none, .ias 2 (.t p12) (.t p13)⟩, ⟨(some p15), none, .ld (some 2) (.t p14)⟩, ⟨(some p16), none, .call (.t p11) [(.t p15)]⟩] []) (.kill [p11, p12, p13, p14, p15] (.cond (.t p16) (.kill [p16] (.seq (.reg [⟨(some p17), none, .mov (.t p5)⟩, ⟨(some p4), none, .mov (.t p17)⟩] []) .ret)) .skip)))))) (.kill [p16] (.reg [⟨(some p18), none, .bin .add (.t p8) (.c (.int .i64 1))⟩, ⟨(some p8), none, .mov (.t p18)⟩] [])))))))))) (.kill [p0, p1, p7, p8, p9] (.seq (.reg [⟨(some p4), none, .mov (.c (.int .i64 (-1)))⟩] []) .ret))))) }
def a81 : AFunc := { params := [p0], init := i4, results := [.tmp p2], body := (.seq (.reg [⟨(some p1), none, .box (.t p0)⟩, ⟨(some p2), none, .mov (.c .nilFunc)⟩] []) (.kill [p0, p2] (.seq (.reg [⟨(some p3), none, .clos (.func 85) [] [(.t p1)]⟩, ⟨(some p2), none, .mov (.t p3)⟩] []) .ret))) }
def a82 : AFunc := { params := [p0, p1], init := i19, results := [.tmp p4], body := (.seq (.reg [⟨(some p4), none, .mov (.c (.int .i64 0))⟩] []) (.kill [p4] (.seq (.seq (.reg [⟨(some p6), none, .mov (.t p0)⟩, ⟨(some p7), none, .len 1 (.t p6)⟩, ⟨(some p8), none, .mov (.c (.int .i64 0))⟩] []) (.kill [p6] (.block 0 (.loop (.seq (.reg [⟨(some p9), none, .bin .lss (.t p8) (.t p7)⟩] []) (.seq (.cond (.t p9) .skip (.exit 0)) (.kill [p9] (.seq (.block 1 (.seq (.reg [⟨(some p10), none, .mov (.t p8)⟩, ⟨(some p5), none, .mov (.t p10)⟩] []) (.kill [p10] (.seq (.reg [⟨(some p11), none, .mov (.t p1)⟩, ⟨(some p12), none, .mov (.t p0)⟩, ⟨(some p13), none, .mov (.t p5)⟩, ⟨(some p14), none, .ias 1 (.t p12) (.t p13)⟩, ⟨(some p15), none, .ld none (.t p14)⟩, ⟨(some p16), none, .call (.t p11) [(.t p15)]⟩] []) (.kill [p11, p12, p13, p14, p15] (.cond (.t p16) (.kill [p16] (.seq (.reg [⟨(some p17), none, .mov (.t p5)⟩, ⟨(some p4), none, .mov (.t p17)⟩] []) .ret)) .skip)))))) (.kill [p16] (.reg [⟨(some p18), none, .bin .add (.t p8) (.c (.int .i64 1))⟩, ⟨(some p8), none, .mov (.t p18)⟩] [])))))))))) (.kill [p0, p1, p7, p8, p9] (.seq (.reg [⟨(some p4), none, .mov (.c (.int .i64 (-1)))⟩] []) .ret))))) }
def a83 : AFunc := { params := [p0], init := i14, results := [.tmp p2], body := (.seq (.reg [⟨(some p2), none, .mov (.c (.int .i64 0))⟩] []) (.kill [p2] (.seq (.seq (.reg [⟨(some p3), none, .mov (.t p0)⟩, ⟨(some p4), none, .bin .eql (.t p3) (.c (.int .u32 0))⟩] []) (.kill [p3] (.cond (.t p4) (.kill [p4] (.seq (.reg [⟨(some p2), none, .mov (.c (.int .i64 32))⟩] []) .ret)) .skip))) (.kill [p4] (.seq (.reg [⟨(some p5), none, .mov (.t p0)⟩, ⟨(some p6), none, .mov (.t p0)⟩, ⟨(some p7), none, .un .neg (.t p6)⟩, ⟨(some p8), none, .bin .and (.t p5) (.t p7)⟩, ⟨(some p9), none, .bin .mul (.t p8) (.c (.int .u32 125613361))⟩, ⟨(some p10), none, .bin .shr (.t p9) (.c (.int .u64 27))⟩, ⟨(some p11), none, .iad 32 1 (.c (.pointer (some ⟨1, 0, none⟩))) (.t p10)⟩, ⟨(some p12), none, .ld none (.t p11)⟩, ⟨(some p13), none, .cvt .i64 (.t p12)⟩, ⟨(some p2), none, .mov (.t p13)⟩] []) .ret))))) }
def a84 : AFunc := { params := [p0], init := i14, results := [.tmp p2], body := (.seq (.reg [⟨(some p2), none, .mov (.c (.int .i64 0))⟩] []) (.kill [p2] (.seq (.seq (.reg [⟨(some p3), none, .mov (.t p0)⟩, ⟨(some p4), none, .bin .eql (.t p3) (.c (.int .u64 0))⟩] []) (.kill [p3] (.cond (.t p4) (.kill [p4] (.seq (.reg [⟨(some p2), none, .mov (.c (.int .i64 64))⟩] []) .ret)) .skip))) (.kill [p4] (.seq (.reg [⟨(some p5), none, .mov (.t p0)⟩, ⟨(some p6), none, .mov (.t p0)⟩, ⟨(some p7), none, .un .neg (.t p6)⟩, ⟨(some p8), none, .bin .and (.t p5) (.t p7)⟩, ⟨(some p9), none, .bin .mul (.t p8) (.c (.int .u64 285870213051353865))⟩, ⟨(some p10), none, .bin .shr (.t p9) (.c (.int .u64 58))⟩, ⟨(some p11), none, .iad 64 1 (.c (.pointer (some ⟨2, 0, none⟩))) (.t p10)⟩, ⟨(some p12), none, .ld none (.t p11)⟩, ⟨(some p13), none, .cvt .i64 (.t p12)⟩, ⟨(some p2), none, .mov (.t p13)⟩] []) .ret))))) }
def a85 : AFunc := { params := [p0, p1], init := i8, results := [], body := (.seq (.reg [⟨(some p2), none, .box (.t p0)⟩] []) (.kill [p0] (.seq (.reg [⟨(some p3), none, .zero [(.slice none 0 0)]⟩] []) (.seq (.reg [⟨(some p4), none, .zero [.nilFunc]⟩] []) (.seq (.reg [⟨(some p5), none, .clos (.func 86) [] [(.t p3), (.t p1), (.t p2), (.t p4)]⟩, ⟨none, none, .st 1 (.t p4) (.t p5)⟩] []) (.kill [p1, p2, p3, p5] (.reg [⟨(some p6), none, .ld none (.t p4)⟩, ⟨(some p7), none, .call (.t p6) []⟩] []))))))) }
def a86 : AFunc := { params := [p0, p1, p2, p3], init := i33, results := [.tmp p4], body := (.seq (.reg [⟨(some p4), none, .mov (.c (.bool false))⟩] []) (.kill [p4] (.seq (.seq (.reg [⟨(some p6), none, .ld none (.t p0)⟩, ⟨(some p7), none, .len 1 (.t p6)⟩, ⟨(some p8), none, .ld none (.t p1)⟩, ⟨(some p9), none, .bin .eql (.t p7) (.t p8)⟩] []) (.kill [p6, p7, p8] (.cond (.t p9) (.kill [p9] (.seq (.reg [⟨(some p10), none, .ld none (.t p2)⟩, ⟨(some p11), none, .ld none (.t p0)⟩, ⟨(some p12), none, .call (.t p10) [(.t p11)]⟩, ⟨(some p4), none, .mov (.t p12)⟩] []) .ret)) .skip))) (.kill [p9] (.seq (.seq (.reg [⟨(some p13), none, .ld none (.t p1)⟩, ⟨(some p14), none, .mov (.c (.int .i64 0))⟩] []) (.kill [p1] (.block 0 (.loop (.seq (.reg [⟨(some p15), none, .bin .lss (.t p14) (.t p13)⟩] []) (.seq (.cond (.t p15) .skip (.exit 0)) (.kill [p15] (.seq (.block 1 (.seq (.reg [⟨(some p16), none, .mov (.t p14)⟩, ⟨(some p5), none, .mov (.t p16)⟩] []) (.kill [p16] (.seq (.seq (.reg [⟨(some p17), none, .ld none (.t p0)⟩, ⟨(some p18), none, .mov (.t p5)⟩, ⟨(some p19), none, .call (.c (.func (.func 87) #[] #[])) [(.t p17), (.t p18)]⟩] []) (.kill [p17, p18] (.cond (.t p19) (.exit 1) .skip))) (.kill [p19] (.seq (.reg [⟨(some p20), none, .ld none (.t p0)⟩, ⟨(some p21), none, .mov (.t p5)⟩, ⟨(some p22), none, .bslice 1 1 [(.int .i64 0)] [(0, 1, (.t p21))]⟩, ⟨(some p23), none, .app 1 (.t p20) (.t p22)⟩, ⟨none, none, .st 1 (.t p0) (.t p23)⟩] []) (.kill [p5, p20, p21, p22, p23] (.seq (.seq (.reg [⟨(some p24), none, .ld none (.t p3)⟩, ⟨(some p25), none, .call (.t p24) []⟩, ⟨(some p26), none, .un .not (.t p25)⟩] []) (.kill [p24, p25] (.cond (.t p26) (.kill [p26] (.seq (.reg [⟨(some p4), none, .mov (.c (.bool false))⟩] []) .ret)) .skip))) (.kill [p26] (.reg [⟨(some p27), none, .ld none (.t p0)⟩, ⟨(some p28), none, .ld none (.t p0)⟩, ⟨(some p29), none, .len 1 (.t p28)⟩, ⟨(some p30), none, .bin .sub (.t p29) (.c (.int .i64 1))⟩, ⟨(some p31), none, .slsl 1 (.t p27) none (some (.t p30)) none⟩, ⟨none, none, .st 1 (.t p0) (.t p31)⟩] [])))))))))) (.kill [p27, p28, p29, p30, p31] (.reg [⟨(some p32), none, .bin .add (.t p14) (.c (.int .i64 1))⟩, ⟨(some p14), none, .mov (.t p32)⟩] [])))))))))) (.kill [p0, p3, p13, p14, p15, p19] (.seq (.reg [⟨(some p4), none, .mov (.c (.bool true))⟩] []) .ret))))))) }
def a87 : AFunc := { params := [p0, p1], init := i9, results := [.tmp p4], body := (.seq (.reg [⟨(some p4), none, .mov (.c (.bool false))⟩] []) (.kill [p4] (.seq (.reg [⟨(some p5), none, .mov (.t p0)⟩, ⟨(some p6), none, .mov (.t p1)⟩, ⟨(some p7), none, .call (.c (.func (.func 88) #[] #[])) [(.t p5), (.t p6)]⟩, ⟨(some p8), none, .bin .geq (.t p7) (.c (.int .i64 0))⟩, ⟨(some p4), none, .mov (.t p8)⟩] []) .ret))) }
def a88 : AFunc := { params := [p0, p1], init := i19, results := [.tmp p4], body := (.seq (.reg [⟨(some p4), none, .mov (.c (.int .i64 0))⟩] []) (.kill [p4] (.seq (.seq (.reg [⟨(some p6), none, .mov (.t p0)⟩, ⟨(some p7), none, .len 1 (.t p6)⟩, ⟨(some p8), none, .mov (.c (.int .i64 0))⟩] []) (.kill [p6] (.block 0 (.loop (.seq (.reg [⟨(some p9), none, .bin .lss (.t p8) (.t p7)⟩] []) (.seq (.cond (.t p9) .skip (.exit 0)) (.kill [p9] (.seq (.block 1 (.seq (.reg [⟨(some p10), none, .mov (.t p8)⟩, ⟨(some p5), none, .mov (.t p10)⟩] []) (.kill [p10] (.seq (.reg [⟨(some p11), none, .mov (.t p1)⟩, ⟨(some p12), none, .mov (.t p0)⟩, ⟨(some p13), none, .mov (.t p5)⟩, ⟨(some p14), none, .ias 1 (.t p12) (.t p13)⟩, ⟨(some p15), none, .ld none (.t p14)⟩, ⟨(some p16), none, .bin .eql (.t p11) (.t p15)⟩] []) (.kill [p11, p12, p13, p14, p15] (.cond (.t p16) (.kill [p16] (.seq (.reg [⟨(some p17), none, .mov (.t p5)⟩, ⟨(some p4), none, .mov (.t p17)⟩] []) .ret)) .skip)))))) (.kill [p16] (.reg [⟨(some p18), none, .bin .add (.t p8) (.c (.int .i64 1))⟩, ⟨(some p8), none, .mov (.t p18)⟩] [])))))))))) (.kill [p0, p1, p7, p8, p9] (.seq (.reg [⟨(some p4), none, .mov (.c (.int .i64 (-1)))⟩] []) .ret))))) }
def tbl : Tr AFunc := (.nd none (.nd none (.nd none (.nd none (.nd (some a15) (.nd (some a31) (.nd (some a63) .lf .lf) .lf) (.nd none (.nd (some a79) .lf .lf) .lf)) (.nd none (.nd none (.nd (some a71) .lf .lf) .lf) (.nd (some a55) (.nd (some a87) .lf .lf) .lf))) (.nd none (.nd (some a19) (.nd none (.nd (some a67) .lf .lf) .lf) (.nd none (.nd (some a83) .lf .lf) .lf)) (.nd none (.nd (some a43) (.nd (some a75) .lf .lf) .lf) (.nd none .lf .lf)))) (.nd none (.nd none (.nd none (.nd (some a33) (.nd none .lf .lf) .lf) (.nd none (.nd (some a81) .lf .lf) .lf)) (.nd (some a25) (.nd none (.nd none .lf .lf) .lf) (.nd (some a57) .lf .lf))) (.nd none (.nd none (.nd none (.nd none .lf .lf) .lf) (.nd (some a53) (.nd (some a85) .lf .lf) .lf)) (.nd none (.nd none (.nd (some a77) .lf .lf) .lf) (.nd (some a61) .lf .lf))))) (.nd none (.nd none (.nd none (.nd (some a16) (.nd (some a32) (.nd (some a64) .lf .lf) .lf) (.nd none (.nd (some a80) .lf .lf) .lf)) (.nd (some a24) (.nd none (.nd none .lf .lf) .lf) (.nd (some a56) (.nd (some a88) .lf .lf) .lf))) (.nd none (.nd (some a20) (.nd none (.nd (some a68) .lf .lf) .lf) (.nd (some a52) (.nd (some a84) .lf .lf) .lf)) (.nd (some a28) (.nd none (.nd (some a76) .lf .lf) .lf) (.nd none .lf .lf)))) (.nd (some a6) (.nd none (.nd (some a18) (.nd (some a34) (.nd (some a66) .lf .lf) .lf) (.nd (some a50) (.nd (some a82) .lf .lf) .lf)) (.nd none (.nd none (.nd none .lf .lf) .lf) (.nd (some a58) .lf .lf))) (.nd none (.nd (some a22) (.nd none (.nd (some a70) .lf .lf) .lf) (.nd (some a54) (.nd (some a86) .lf .lf) .lf)) (.nd none (.nd none (.nd (some a78) .lf .lf) (.nd none .lf .lf)) (.nd (some a62) .lf .lf))))))
end
end Go.Ab.Dues

namespace Go.Ab.Dues
set_option maxRecDepth 1000000
def tab64 : List Int := [0, 1, 56, 2, 57, 49, 28, 3, 61, 58, 42, 50, 38, 29, 17, 4, 62, 47, 59, 36, 45, 43, 51, 22, 53, 39, 33, 30, 24, 18, 12, 5, 63, 55, 48, 27, 60, 41, 37, 16, 46, 35, 44, 21, 52, 32, 23, 11, 54, 26, 40, 15, 34, 20, 31, 10, 25, 14, 19, 9, 13, 8, 7, 6]
def tab32 : List Int := [0, 1, 28, 2, 29, 14, 24, 3, 30, 22, 20, 15, 25, 17, 4, 8, 31, 27, 13, 23, 21, 19, 16, 7, 26, 12, 18, 6, 11, 5, 10, 9]
def globs : List (Nat × List (IntKind × Int)) := [(2, tab64.map fun n => (.u8, n)), (0, [(.i64, 0), (.i64, 1)])]
noncomputable section
def cfg0 : Cfg := { fn := fun f => Tr.get tbl f, pick := fun _ => 0, glob := globs }
theorem fit : Tr.allB (fitB Go.Proofs.Tryd.prog) tbl (fun n => n) = true := by decide +kernel
theorem tab0 : TabOK Go.Proofs.Tryd.prog cfg0 := tabOK (t := tbl) (fun _ _ h => h) fit
theorem mixed : Go.Proofs.Tryd.prog.follows .mixedOrders = true := by decide +kernel
end
end Go.Ab.Dues

namespace Go.Ab.Dues
set_option maxRecDepth 1000000
theorem awake_runs : (match run true cfg0 600 (.call 24 [] ⟨baseG cfg0.glob, .lf, 0, 0⟩) with
  | some (_, .nd (.bool true) _ _, _) => true
  | _ => false) = true := by decide +kernel
theorem awake_closed : ClosedAns cfg0 24 (.bool true) := by
  have h := awake_runs
  split at h
  · rename_i e l r h' he; exact ⟨600, e, l, r, h', he⟩
  · cases h
end Go.Ab.Dues

namespace Go.Ab.Dues
open Go.Ab.V Go.Proofs Go.Proofs.YtdjpaifhmiocnaaDoor
set_option maxRecDepth 1000000
noncomputable section
def cfg : Cfg := withOrc cfg0 24 (.bool true)
end
theorem no_orc (f : Nat) (h : f ≠ 24) (l : List Value) (b : Nat → Option (List Value)) : cfg.orc f l b = none := orc_no rfl h l b
abbrev laidL : List (String × DataW Unit) := [("math/bits.deBruijn32tab", Rows.laid_math_bits_deBruijn32tab), ("math/bits.deBruijn64tab", Rows.laid_math_bits_deBruijn64tab), ("careen/dues.none", Rows.laid_careen_dues_none)]
noncomputable def laidWorld (os : Os) : World :=
  let w0 := World.holding Tryd.prog os ⟨#[], #[], []⟩
  { w0 with heap := ((w0.heap.modify 0 fun
      | .cells _ t frozen => .cells (rowI [(.i64, 0), (.i64, 1)]).toArray t frozen
      | o => o).modify 1 fun
      | .cells _ t frozen => .cells (rowI (tab32.map fun n => (.u8, n))).toArray t frozen
      | o => o).modify 2 fun
      | .cells _ t frozen => .cells (rowI (tab64.map fun n => (.u8, n))).toArray t frozen
      | o => o }
theorem laidWorld_met (os : Os) (args : Array Value) : laidMetH Tryd.prog laidL ((laidWorld os).forCall (fun _ _ => 0) ⟨#[], args, []⟩).memory := by
  show laidMet Tryd.prog laidL _
  exact laidMet_of_run' 8 (by kernel_rfl) (by kernel_rfl)
theorem glob_of_laid {W : World} (h : laidMetH Tryd.prog laidL W) : GlobOK cfg (baseW W) := by
  have h' : laidMet Tryd.prog laidL W := h
  obtain ⟨ps, hv, _⟩ := h'
  obtain ⟨_, q1, hv⟩ := laid_base (t := 117) hv (show Tryd.prog.globalNamed "math/bits.deBruijn32tab" = some 1 by kernel_rfl) (by kernel_rfl) (row := tab32.map fun n => (.u8, n)) (fun fuel cs p ht => by
    have := laid_arr (zs := tab32) Tryd.underlying117 (k := .u8) (by kernel_rfl) (by kernel_rfl) (by kernel_rfl) ht
    rw [this]; simp [rowI])
  obtain ⟨h64, q2, hv⟩ := laid_base (t := 118) hv (show Tryd.prog.globalNamed "math/bits.deBruijn64tab" = some 2 by kernel_rfl) (by kernel_rfl) (row := tab64.map fun n => (.u8, n)) (fun fuel cs p ht => by
    have := laid_arr (zs := tab64) Tryd.underlying118 (k := .u8) (by kernel_rfl) (by kernel_rfl) (by kernel_rfl) ht
    rw [this]; simp [rowI])
  obtain ⟨h0, q3, hv⟩ := laid_base (t := 80) hv (show Tryd.prog.globalNamed "careen/dues.none" = some 0 by kernel_rfl) (by kernel_rfl) (row := [(.i64, 0), (.i64, 1)]) (fun fuel cs p ht => by
    have := laid_st2 Tryd.underlying80 (k := .i64) (by kernel_rfl) (by kernel_rfl) (by kernel_rfl) (by kernel_rfl) rfl rfl (by kernel_rfl) ht
    rw [this]; simp [rowI])
  intro e he
  have he : e ∈ globs := he
  rcases List.mem_cons.1 he with rfl | he
  · exact h64
  · rcases List.mem_cons.1 he with rfl | he
    · exact h0
    · cases he
end Go.Ab.Dues

namespace Go.Ab.Dues
set_option maxRecDepth 100000
open Go.Ab.V
end Go.Ab.Dues

namespace Go.Ab.Dues
open Go.Ab.V
set_option maxRecDepth 100000
end Go.Ab.Dues

namespace Go.Ab.Dues
open Go.Ab.V
set_option maxRecDepth 100000
/-- The place of the lowest bit. -/
def low (s : Nat) : Nat := ((List.range 10).find? fun i => s.testBit i).getD 0
def tzi (s : Nat) : Nat := (s &&& (18446744073709551616 - s)) * 285870213051353865 % 18446744073709551616 / 288230376151711744
theorem tz_tab : ∀ s, s < 1024 → s ≠ 0 → tzi s < 64 ∧ tab64[tzi s]? = some (low s : Int) ∧ low s < 10 := by decide +kernel
theorem tz_facts (s : Nat) (h0 : s ≠ 0) (h : s < 1024) : ∃ x y z i : Nat, ((0 : Int) - s) % 18446744073709551616 = (x : Int) ∧
    ((BitVec.ofInt IntKind.u64.bits (s : Int) &&& BitVec.ofInt IntKind.u64.bits (x : Int)).toNat : Int) % 18446744073709551616 = (y : Int) ∧ (y : Int) * 285870213051353865 % 18446744073709551616 = (z : Int) ∧
    shrA .u64 (z : Int) 58 = some (.int .u64 (i : Int)) ∧ i < 64 ∧ tab64[i]? = some (low s : Int) ∧ low s < 10 := by
  obtain ⟨t1, t2, t3⟩ := tz_tab s h h0
  refine ⟨18446744073709551616 - s, s &&& (18446744073709551616 - s), (s &&& (18446744073709551616 - s)) * 285870213051353865 % 18446744073709551616, tzi s, by omega, and_u64 (by omega) (by omega), by omega, ?_, t1, t2, t3⟩
  have hshr := shr_u64 (a := (s &&& (18446744073709551616 - s)) * 285870213051353865 % 18446744073709551616) (n := 58) (by decide)
  rw [Nat.shiftRight_eq_div_pow] at hshr
  unfold tzi
  exact hshr
theorem tz64 (s : Nat) (h0 : s ≠ 0) (h : s < 1024) : VCall cfg 84 [.p (.at (.int .u64 s))] [] [] (vi (low s)) [] := by
  have hs : ¬(s : Int) = 0 := by omega
  obtain ⟨x, y, z, i, hneg, hand, hmul, hshr, t1, t2, t3⟩ := tz_facts s h0 h
  generalize low s = lo at *
  (refine VCall.mk (fn := a84) rfl rfl rfl ?_; simp only [a84, inV, mkB, nmsL, PT.set])
  (repeat (first | refine VC.seq ?_ | refine VC.block ?_ | refine VC.kill ?_ | refine VC.skip ?_ | refine VC.exit ?_ | refine VC.regA ?_ | refine VC.condT ?_ | refine VC.condF ?_))
  refine VC.reg ?_
  apply VO.runs 4
  · (simp (config := {decide := false, maxSteps := 1000000}) (disch := omega) only [vev_call, putC_c0, putC_n0, putC_cs, ble0, List.getElem?_cons_zero, List.getElem?_cons_succ, runU, isCall, wantV, vev, evV, ofVal, ofAtom, atomB, cond_true, cond_false, PT.get, PT.set, PT.filt, PT.map, Option.getD_some, Option.getD_none, ret1V, ret1X, v_ld, v_ias, v_iad, v_fad, v_slsl, v_slarr, v_st, v_app, v_cpy, v_clr, v_len, v_look, v_mset, elsV, partV, newV, free, atV, atI, atL, toVal, cellsV, okV, VSt.put, VSt.kill, VSt.alloc, VSt.frz, VSt.adopt, noref, norefB, deadB, deadV, nos, nm, nmL, nmB, nmE, Pa.eqb, Bool.not_false, Bool.not_true, Bool.and_true, Bool.true_and, Bool.false_and, Bool.and_false, bin, intOps, intBin, cvt, un, goInt, bndsV, bndV, Option.map_some, Option.map_none, List.map_cons, List.map_nil, Int.toNat_natCast, Nat.mul_one, Nat.zero_add, beq_true, beq_false, beq_self_eq_true, List.length_map, List.length_cons, List.length_nil, List.length_append, fillV, pEvV, repsV, List.append_nil, List.nil_append, if_pos, if_neg, reduceIte, List.getElem?_map, List.getElem?_drop, Nat.add_zero, List.getElem?_eq_getElem, Go.IntWalk.i64_in, wrap_u64, tmod_pos, eq_self, true_and, and_true, and_self, List.all_cons, List.all_nil, nmL_vi, flV_len, flP_len, flV_nm, flV_ok, flV_pv, flP_map, drop_flP, drop_flV, putC_flV, eqV2, eqV3, bneT, bneF, decide_true, decide_false, frzL_vi, frzL_flV, nmE_ag, nmE_at, frzE_ag, frzE_at, ofAg_len, ofAt_len, atL_vi, nmL_map_p, frzL_map_p, okL_p, toPVs_p, repsZ, nmL_reps, putC_vi, get_flV0, get_flV1, Int.toNat_zero, Int.toNat_one, Int.reduceToNat, eqV_slice, eqV_ptr, eqV_func, nilS, nilP, nilF, nmL_append, okL_vi, toPVs_vi, toPVs, toPV, frzV, frzL, frzB, resVV, vi, vb, nilV, sl1, bl1, pi, foldV, max2, min2, max_eq, min_eq, Int.tdiv_eq_ediv_of_nonneg, Int.cast_ofNat_Int, Option.isSome_none, Option.isSome_some, Option.isNone_none, Option.isNone_some, and_false, false_and, sl2, sl1P, slP, min_cast, take_map_pi, map_pi, Nat.sub_zero, Nat.zero_mul, List.length_take, decide_eq_true, decide_eq_false, Bool.true_eq_false, Bool.false_eq_true, beqT, beqF, ibeq, ibne, List.take_zero, List.take_succ_cons, List.drop_zero, List.drop_succ_cons, List.drop_nil, List.take_nil, List.cons_append, Bool.not_true, Bool.not_false, runK, hneg, hand])
    rfl
  clear hneg hand
  refine VO.bin1 (mulU hmul) rfl rfl rfl ?_
  clear hmul
  apply VO.runs 1
  · (simp (config := {decide := false, maxSteps := 1000000}) (disch := omega) only [vev_call, putC_c0, putC_n0, putC_cs, ble0, List.getElem?_cons_zero, List.getElem?_cons_succ, runU, isCall, wantV, vev, evV, ofVal, ofAtom, atomB, cond_true, cond_false, PT.get, PT.set, PT.filt, PT.map, Option.getD_some, Option.getD_none, ret1V, ret1X, v_ld, v_ias, v_iad, v_fad, v_slsl, v_slarr, v_st, v_app, v_cpy, v_clr, v_len, v_look, v_mset, elsV, partV, newV, free, atV, atI, atL, toVal, cellsV, okV, VSt.put, VSt.kill, VSt.alloc, VSt.frz, VSt.adopt, noref, norefB, deadB, deadV, nos, nm, nmL, nmB, nmE, Pa.eqb, Bool.not_false, Bool.not_true, Bool.and_true, Bool.true_and, Bool.false_and, Bool.and_false, bin, intOps, intBin, cvt, un, goInt, bndsV, bndV, Option.map_some, Option.map_none, List.map_cons, List.map_nil, Int.toNat_natCast, Nat.mul_one, Nat.zero_add, beq_true, beq_false, beq_self_eq_true, List.length_map, List.length_cons, List.length_nil, List.length_append, fillV, pEvV, repsV, List.append_nil, List.nil_append, if_pos, if_neg, reduceIte, List.getElem?_map, List.getElem?_drop, Nat.add_zero, List.getElem?_eq_getElem, Go.IntWalk.i64_in, wrap_u64, tmod_pos, eq_self, true_and, and_true, and_self, List.all_cons, List.all_nil, nmL_vi, flV_len, flP_len, flV_nm, flV_ok, flV_pv, flP_map, drop_flP, drop_flV, putC_flV, eqV2, eqV3, bneT, bneF, decide_true, decide_false, frzL_vi, frzL_flV, nmE_ag, nmE_at, frzE_ag, frzE_at, ofAg_len, ofAt_len, atL_vi, nmL_map_p, frzL_map_p, okL_p, toPVs_p, repsZ, nmL_reps, putC_vi, get_flV0, get_flV1, Int.toNat_zero, Int.toNat_one, Int.reduceToNat, eqV_slice, eqV_ptr, eqV_func, nilS, nilP, nilF, nmL_append, okL_vi, toPVs_vi, toPVs, toPV, frzV, frzL, frzB, resVV, vi, vb, nilV, sl1, bl1, pi, foldV, max2, min2, max_eq, min_eq, Int.tdiv_eq_ediv_of_nonneg, Int.cast_ofNat_Int, Option.isSome_none, Option.isSome_some, Option.isNone_none, Option.isNone_some, and_false, false_and, sl2, sl1P, slP, min_cast, take_map_pi, map_pi, Nat.sub_zero, Nat.zero_mul, List.length_take, decide_eq_true, decide_eq_false, Bool.true_eq_false, Bool.false_eq_true, beqT, beqF, ibeq, ibne, List.take_zero, List.take_succ_cons, List.drop_zero, List.drop_succ_cons, List.drop_nil, List.take_nil, List.cons_append, Bool.not_true, Bool.not_false, runK, hshr])
    rfl
  have hrow : (tab64.map fun n => ((IntKind.u8, n) : IntKind × Int)).length = 64 := by decide
  refine VO.iadG (b := 2) (row := tab64.map fun n => (.u8, n)) (k := .u64) (n := i) rfl (List.Mem.head _) ?_ t1 (by rw [hrow]; omega) ?_
  · (simp (config := {decide := false, maxSteps := 1000000}) (disch := omega) only [vev_call, putC_c0, putC_n0, putC_cs, ble0, List.getElem?_cons_zero, List.getElem?_cons_succ, runU, isCall, wantV, vev, evV, ofVal, ofAtom, atomB, cond_true, cond_false, PT.get, PT.set, PT.filt, PT.map, Option.getD_some, Option.getD_none, ret1V, ret1X, v_ld, v_ias, v_iad, v_fad, v_slsl, v_slarr, v_st, v_app, v_cpy, v_clr, v_len, v_look, v_mset, elsV, partV, newV, free, atV, atI, atL, toVal, cellsV, okV, VSt.put, VSt.kill, VSt.alloc, VSt.frz, VSt.adopt, noref, norefB, deadB, deadV, nos, nm, nmL, nmB, nmE, Pa.eqb, Bool.not_false, Bool.not_true, Bool.and_true, Bool.true_and, Bool.false_and, Bool.and_false, bin, intOps, intBin, cvt, un, goInt, bndsV, bndV, Option.map_some, Option.map_none, List.map_cons, List.map_nil, Int.toNat_natCast, Nat.mul_one, Nat.zero_add, beq_true, beq_false, beq_self_eq_true, List.length_map, List.length_cons, List.length_nil, List.length_append, fillV, pEvV, repsV, List.append_nil, List.nil_append, if_pos, if_neg, reduceIte, List.getElem?_map, List.getElem?_drop, Nat.add_zero, List.getElem?_eq_getElem, Go.IntWalk.i64_in, wrap_u64, tmod_pos, eq_self, true_and, and_true, and_self, List.all_cons, List.all_nil, nmL_vi, flV_len, flP_len, flV_nm, flV_ok, flV_pv, flP_map, drop_flP, drop_flV, putC_flV, eqV2, eqV3, bneT, bneF, decide_true, decide_false, frzL_vi, frzL_flV, nmE_ag, nmE_at, frzE_ag, frzE_at, ofAg_len, ofAt_len, atL_vi, nmL_map_p, frzL_map_p, okL_p, toPVs_p, repsZ, nmL_reps, putC_vi, get_flV0, get_flV1, Int.toNat_zero, Int.toNat_one, Int.reduceToNat, eqV_slice, eqV_ptr, eqV_func, nilS, nilP, nilF, nmL_append, okL_vi, toPVs_vi, toPVs, toPV, frzV, frzL, frzB, resVV, vi, vb, nilV, sl1, bl1, pi, foldV, max2, min2, max_eq, min_eq, Int.tdiv_eq_ediv_of_nonneg, Int.cast_ofNat_Int, Option.isSome_none, Option.isSome_some, Option.isNone_none, Option.isNone_some, and_false, false_and, sl2, sl1P, slP, min_cast, take_map_pi, map_pi, Nat.sub_zero, Nat.zero_mul, List.length_take, decide_eq_true, decide_eq_false, Bool.true_eq_false, Bool.false_eq_true, beqT, beqF, ibeq, ibne, List.take_zero, List.take_succ_cons, List.drop_zero, List.drop_succ_cons, List.drop_nil, List.take_nil, List.cons_append, Bool.not_true, Bool.not_false])
  obtain ⟨hl, hv⟩ := List.getElem?_eq_some_iff.1 t2
  have hd : gPV ((tab64.map fun n => ((IntKind.u8, n) : IntKind × Int)).drop (i * 1)) = .at (.int .u8 lo) :: gPV ((tab64.map fun n => ((IntKind.u8, n) : IntKind × Int)).drop (i + 1)) := by
    rw [Nat.mul_one, List.drop_eq_getElem_cons (by rw [hrow]; exact t1)]
    simp only [gPV, List.map_cons, List.getElem_map, hv]
  rw [hd]
  have hc := wrapI (x := (lo : Int)) (by omega) (by omega)
  apply VO.uptoE
  · exact vF @hc
  (repeat (first | refine VC.seq ?_ | refine VC.block ?_ | refine VC.kill ?_ | refine VC.skip ?_ | refine VC.exit ?_ | refine VC.regA ?_ | refine VC.condT ?_ | refine VC.condF ?_))
  exact VC.ret (Fin.A rfl)
theorem tz_ok (s : Nat) (h0 : s ≠ 0) (h : s < 1024) : VCall cfg 77 [.p (.at (.int .u64 s))] [] [] (vi (low s)) [] := by
  have k := tz64 s h0 h
  (refine VCall.mk (fn := a77) rfl rfl rfl ?_; simp only [a77, inV, mkB, nmsL, PT.set])
  (repeat (first | refine VC.seq ?_ | refine VC.block ?_ | refine VC.kill ?_ | refine VC.skip ?_ | refine VC.exit ?_ | refine VC.regA ?_ | refine VC.condT ?_ | refine VC.condF ?_))
  (refine VC.regCA ?_; refine VO.moreA ?_; refine VO.call0A (no_orc _ (by decide)) k ?_; refine VO.endA ?_; (repeat (first | refine VC.seq ?_ | refine VC.block ?_ | refine VC.kill ?_ | refine VC.skip ?_ | refine VC.exit ?_ | refine VC.regA ?_ | refine VC.condT ?_ | refine VC.condF ?_)))
  exact VC.ret (Fin.A rfl)
/-- The elements of a set, rising. -/
def bitsN (s : Nat) : List Nat := (List.range 10).filter fun i => s.testBit i
def bitsL (s : Nat) : List Int := (bitsN s).map fun (i : Nat) => (i : Int)
theorem bits_tab : ∀ s, s < 1024 → s ≠ 0 → bitsN s = low s :: bitsN (s &&& (s - 1)) ∧ s &&& (s - 1) < s := by decide +kernel
theorem bitsN_len (s : Nat) : (bitsN s).length ≤ 10 := by
  have := List.length_filter_le (fun i => s.testBit i) (List.range 10)
  rw [List.length_range] at this
  exact this
theorem bitsL_len (s : Nat) : (bitsL s).length ≤ 10 := by unfold bitsL; rw [List.length_map]; exact bitsN_len s
set_option maxHeartbeats 4000000 in
theorem members_ok (s : Nat) (h : s < 1024) : VCall cfg 53 [vi s] [] [] (sl1 (bitsL s)) [] := by
  (refine VCall.mk (fn := a53) rfl rfl rfl ?_; simp only [a53, inV, mkB, nmsL, PT.set])
  (repeat (first | refine VC.seq ?_ | refine VC.block ?_ | refine VC.kill ?_ | refine VC.skip ?_ | refine VC.exit ?_ | refine VC.regA ?_ | refine VC.condT ?_ | refine VC.condF ?_))
  refine VC.loopG (fun (q : List Int × Nat) => ⟨inV [p3, p4] [.os 1 p17 q.1.length, .p (.at (.int .u64 q.2))] .lf, mkB [(p17, .cells (q.1.map vi))] .lf, [], none⟩) (fun n q => n = q.2 ∧ q.2 < 1024 ∧ q.1 ++ bitsL q.2 = bitsL s) (x := ([], s)) ?_ ⟨rfl, h, rfl⟩ ?_
  · refine G.adoptA (p := p3) 1 p17 ?_
    (apply Go.Ab.V.G.weak; constructor <;> simp (config := {decide := true}) only [PT.Le, inV, mkB, PT.set, VSt.kill, VSt.adopt, VSt.alloc, PT.filt, PT.map, List.map_cons, List.map_nil, noref, norefB, deadB, deadV, nos, nm, nmL, nmB, nmE, Pa.eqb, cond_true, cond_false, Bool.not_true, Bool.not_false, Bool.and_true, Bool.true_and, nmL_vi, flV_len, flP_len, flV_nm, flV_ok, flV_pv, flP_map, drop_flP, drop_flV, putC_flV, eqV2, eqV3, bneT, bneF, decide_true, decide_false, frzL_vi, frzL_flV, nmE_ag, nmE_at, frzE_ag, frzE_at, ofAg_len, ofAt_len, atL_vi, nmL_map_p, frzL_map_p, okL_p, toPVs_p, repsZ, nmL_reps, putC_vi, get_flV0, get_flV1, Int.toNat_zero, Int.toNat_one, Int.reduceToNat, eqV_slice, eqV_ptr, eqV_func, nilS, nilP, nilF, nmL_append, true_or, or_true, and_self, true_and, and_true, Option.some.injEq, reduceCtorEq, false_or, or_false, VV.p.injEq, PV.at.injEq, Value.int.injEq, sl1, vi, bl1, vb, nilV])
    simp; omega
  rintro n ⟨out, m⟩ ⟨hn, hm, ho⟩
  simp only at hn hm ho
  have hol : out.length ≤ 10 := by
    have := congrArg List.length ho
    have h2 := bitsL_len s
    rw [List.length_append] at this; omega
  simp only [inV, PT.set, mkB]
  (repeat (first | refine VC.seq ?_ | refine VC.block ?_ | refine VC.kill ?_ | refine VC.skip ?_ | refine VC.exit ?_ | refine VC.regA ?_ | refine VC.condT ?_ | refine VC.condF ?_))
  refine VC.condA ?_ ?_ <;> intro h' <;> (simp only [decide_eq_true_eq, decide_eq_false_iff_not, bne_iff_ne, ne_eq, bne_eq_false_iff_eq, beq_iff_eq, beq_eq_false_iff_ne, Bool.not_eq_true', Bool.not_eq_false', Bool.and_eq_true, Bool.or_eq_true, Int.natCast_inj] at h')
  · have h' : m ≠ 0 := by omega
    have k := tz_ok m h' hm
    obtain ⟨b1, b2⟩ := bits_tab m hm h'
    have hsub : ((m : Int) - 1) % 18446744073709551616 = ((m - 1 : Nat) : Int) := by omega
    have hand := and_u64 (a := m) (b := m - 1) (by omega) (by omega)
    (repeat (first | refine VC.seq ?_ | refine VC.block ?_ | refine VC.kill ?_ | refine VC.skip ?_ | refine VC.exit ?_ | refine VC.regA ?_ | refine VC.condT ?_ | refine VC.condF ?_))
    (refine VC.regCA ?_; refine VO.moreA ?_; refine VO.call0A (no_orc _ (by decide)) k ?_; refine VO.endA ?_; (repeat (first | refine VC.seq ?_ | refine VC.block ?_ | refine VC.kill ?_ | refine VC.skip ?_ | refine VC.exit ?_ | refine VC.regA ?_ | refine VC.condT ?_ | refine VC.condF ?_)))
    simp only [hsub, hand]
    refine ⟨_, (out ++ [(low m : Int)], m &&& (m - 1)), ?_, ⟨rfl, by simp only; omega, ?_⟩, ?_⟩
    · simp only; omega
    · simp only [bitsL] at ho ⊢
      rw [← ho, b1, List.map_cons, List.append_assoc]; rfl
    · (apply Go.Ab.V.G.weak; constructor <;> simp (config := {decide := true}) only [PT.Le, inV, mkB, PT.set, VSt.kill, VSt.adopt, VSt.alloc, PT.filt, PT.map, List.map_cons, List.map_nil, noref, norefB, deadB, deadV, nos, nm, nmL, nmB, nmE, Pa.eqb, cond_true, cond_false, Bool.not_true, Bool.not_false, Bool.and_true, Bool.true_and, nmL_vi, flV_len, flP_len, flV_nm, flV_ok, flV_pv, flP_map, drop_flP, drop_flV, putC_flV, eqV2, eqV3, bneT, bneF, decide_true, decide_false, frzL_vi, frzL_flV, nmE_ag, nmE_at, frzE_ag, frzE_at, ofAg_len, ofAt_len, atL_vi, nmL_map_p, frzL_map_p, okL_p, toPVs_p, repsZ, nmL_reps, putC_vi, get_flV0, get_flV1, Int.toNat_zero, Int.toNat_one, Int.reduceToNat, eqV_slice, eqV_ptr, eqV_func, nilS, nilP, nilF, nmL_append, true_or, or_true, and_self, true_and, and_true, Option.some.injEq, reduceCtorEq, false_or, or_false, VV.p.injEq, PV.at.injEq, Value.int.injEq, sl1, vi, bl1, vb, nilV, List.map_append, List.length_append])
      (all_goals first | rfl | omega | exact ⟨rfl, by omega⟩)
  · have h' : m = 0 := by omega
    subst h'
    have ho : out = bitsL s := by rw [← ho]; simp [bitsL, bitsN]
    subst ho
    (repeat (first | refine VC.seq ?_ | refine VC.block ?_ | refine VC.kill ?_ | refine VC.skip ?_ | refine VC.exit ?_ | refine VC.regA ?_ | refine VC.condT ?_ | refine VC.condF ?_))
    exact VC.ret (Fin.frzA p17 (hb := rfl) (hc := toPVs_vi _) (Fin.A rfl))
end Go.Ab.Dues

namespace Go.Ab.Dues
open Go.Ab.V
set_option maxRecDepth 100000
theorem sl1_take (l : List Int) (m : Nat) : sl1 (l.take m) = .p (.sl 1 (min l.length m) ((l.take (min l.length m)).map pi)) := by
  have : l.take (min l.length m) = l.take m := by
    rcases Nat.le_total l.length m with h | h
    · rw [Nat.min_eq_left h, List.take_of_length_le h, List.take_length]
    · rw [Nat.min_eq_right h]
  rw [sl1, this, List.length_take, Nat.min_comm]
theorem few_ok (l : List Int) (m : Nat) (hm : m < 1000) (hl : l.length ≤ 9223372036854775807) : VCall cfg 43 [sl1 l, vi m] [] [] (sl1 (l.take m)) [] := by
  (refine VCall.mk (fn := a43) rfl rfl rfl ?_; simp only [a43, inV, mkB, nmsL, PT.set])
  (repeat (first | refine VC.seq ?_ | refine VC.block ?_ | refine VC.kill ?_ | refine VC.skip ?_ | refine VC.exit ?_ | refine VC.regA ?_ | refine VC.condT ?_ | refine VC.condF ?_))
  refine VC.ret (Fin.frzA p13 (Fin.A ?_))
  exact sl1_take l m
structure Can where
  up : List Int
  cost : List Int
  ships : List Int
/-- A canal as a value. -/
def canV (c : Can) : VV := .agg [sl1 c.up, sl1 c.cost, sl1 c.ships]
set_option maxHeartbeats 2000000 in
theorem given_ok (c : Can) (h1 : c.up.length ≤ 11) (h2 : c.cost.length ≤ 11) (h3 : c.ships.length ≤ 8) : VCall cfg 16 [canV c] [] [] (canV c) [] := by
  have k1 := few_ok c.up 11 (by decide) (by omega)
  have k2 := few_ok c.cost 11 (by decide) (by omega)
  have k3 := few_ok c.ships 8 (by decide) (by omega)
  rw [List.take_of_length_le (by omega)] at k1 k2 k3
  unfold canV
  (refine VCall.mk (fn := a16) rfl rfl rfl ?_; simp only [a16, inV, mkB, nmsL, PT.set])
  (repeat (first | refine VC.seq ?_ | refine VC.block ?_ | refine VC.kill ?_ | refine VC.skip ?_ | refine VC.exit ?_ | refine VC.regA ?_ | refine VC.condT ?_ | refine VC.condF ?_))
  refine VC.planP [p1] rfl ?_
  (apply VPl.run; · (exact vPl))
  refine VPl.call (no_orc _ (by decide)) k1 rfl rfl rfl rfl ?_
  (apply VPl.run; · (exact vPl))
  refine VPl.call (no_orc _ (by decide)) k2 rfl rfl rfl rfl ?_
  (apply VPl.run; · (exact vPl))
  refine VPl.call (no_orc _ (by decide)) k3 rfl rfl rfl rfl ?_
  (apply VPl.run; · (exact vPl))
  refine VPl.stop (by decide) ?_
  refine VO.endA ?_
  (repeat (first | refine VC.seq ?_ | refine VC.block ?_ | refine VC.kill ?_ | refine VC.skip ?_ | refine VC.exit ?_ | refine VC.regA ?_ | refine VC.condT ?_ | refine VC.condF ?_))
  exact VC.ret (Fin.A rfl)
/-- Sums. -/
def sumL (l : List Int) : Int := l.foldl (· + ·) 0
theorem sumL_take {l : List Int} {i : Nat} (h : i < l.length) : sumL (l.take (i + 1)) = sumL (l.take i) + l[i] := by
  unfold sumL; rw [List.take_add_one, List.getElem?_eq_getElem h, List.foldl_append]; rfl
theorem sumL_bd (l : List Int) (m : Nat) (hb : ∀ x ∈ l, -m ≤ x ∧ x ≤ m) : ∀ i, i ≤ l.length → -((i * m : Nat) : Int) ≤ sumL (l.take i) ∧ sumL (l.take i) ≤ ((i * m : Nat) : Int)
  | 0, _ => by simp [sumL]
  | i + 1, h => by
    have := sumL_bd l m hb i (by omega)
    have hx := hb _ (List.getElem_mem (show i < l.length by omega))
    rw [sumL_take (show i < l.length by omega), Nat.succ_mul]
    omega
set_option maxHeartbeats 2000000 in
theorem sum_ok (l : List Int) (hl : l.length ≤ 100) (hb : ∀ x ∈ l, -1000000000000 ≤ x ∧ x ≤ 1000000000000) : VCall cfg 71 [sl1 l] [] [] (vi (sumL l)) [] := by
  have hbd := sumL_bd l 1000000000000 hb
  (refine VCall.mk (fn := a71) rfl rfl rfl ?_; simp only [a71, inV, mkB, nmsL, PT.set])
  (repeat (first | refine VC.seq ?_ | refine VC.block ?_ | refine VC.kill ?_ | refine VC.skip ?_ | refine VC.exit ?_ | refine VC.regA ?_ | refine VC.condT ?_ | refine VC.condF ?_))
  refine VC.loopG (fun (i : Nat) => ⟨inV [p3, p6, p7, p8] [vi (sumL (l.take i)), sl1 l, vi l.length, vi i] .lf, .lf, [], none⟩) (fun n i => n = l.length - i ∧ i ≤ l.length) (x := 0) ?_ ⟨rfl, Nat.zero_le _⟩ ?_
  · have : sumL (l.take 0) = 0 := rfl
    exact gF @this
  rintro n i ⟨hn, hi⟩
  simp only [inV, PT.set]
  (repeat (first | refine VC.seq ?_ | refine VC.block ?_ | refine VC.kill ?_ | refine VC.skip ?_ | refine VC.exit ?_ | refine VC.regA ?_ | refine VC.condT ?_ | refine VC.condF ?_))
  refine VC.condA ?_ ?_ <;> intro h <;> (simp only [decide_eq_true_eq, decide_eq_false_iff_not, bne_iff_ne, ne_eq, bne_eq_false_iff_eq, beq_iff_eq, beq_eq_false_iff_ne, Bool.not_eq_true', Bool.not_eq_false', Bool.and_eq_true, Bool.or_eq_true, Int.natCast_inj] at h)
  · have h : i < l.length := by omega
    have h1 := hbd i hi
    have h2 := hb _ (List.getElem_mem h)
    have h3 := sumL_take h
    have h4 : i * 1000000000000 ≤ 100 * 1000000000000 := Nat.mul_le_mul_right _ (by omega)
    (repeat (first | refine VC.seq ?_ | refine VC.block ?_ | refine VC.kill ?_ | refine VC.skip ?_ | refine VC.exit ?_ | refine VC.regA ?_ | refine VC.condT ?_ | refine VC.condF ?_))
    refine ⟨_, i + 1, ?_, ⟨rfl, by omega⟩, ?_⟩
    · omega
    · exact gF @h3
  · have h : i = l.length := by omega
    subst h
    rw [List.take_length]
    (repeat (first | refine VC.seq ?_ | refine VC.block ?_ | refine VC.kill ?_ | refine VC.skip ?_ | refine VC.exit ?_ | refine VC.regA ?_ | refine VC.condT ?_ | refine VC.condF ?_))
    exact VC.ret (Fin.A rfl)
end Go.Ab.Dues

namespace Go.Ab.Dues
open Go.Ab.V
set_option maxRecDepth 100000
theorem gcd_tmod (x y : Int) : Int.gcd y (x.tmod y) = Int.gcd x y := by
  unfold Int.gcd
  rw [Int.natAbs_tmod, Nat.gcd_comm y.natAbs, ← Nat.gcd_rec, Nat.gcd_comm]
theorem tmod_bd (x y : Int) (hy : y ≠ 0) : (x.tmod y).natAbs < y.natAbs := by
  rw [Int.natAbs_tmod]; exact Nat.mod_lt _ (by omega)
set_option maxHeartbeats 1000000 in
theorem gcdP_ok (a b : Int) (ha : -1000000000000 ≤ a ∧ a ≤ 1000000000000) (hb : -1000000000000 ≤ b ∧ b ≤ 1000000000000) : VCall cfg 61 [vi a, vi b] [] [] (vi (Int.gcd a b : Nat)) [] := by
  (refine VCall.mk (fn := a61) rfl rfl rfl ?_; simp only [a61, inV, mkB, nmsL, PT.set])
  (repeat (first | refine VC.seq ?_ | refine VC.block ?_ | refine VC.kill ?_ | refine VC.skip ?_ | refine VC.exit ?_ | refine VC.regA ?_ | refine VC.condT ?_ | refine VC.condF ?_))
  refine VC.loopG (fun (q : Int × Int) => ⟨inV [p0, p1] [vi q.1, vi q.2] .lf, .lf, [], none⟩) (fun n q => n = q.2.natAbs ∧ Int.gcd q.1 q.2 = Int.gcd a b ∧ (-1000000000000 ≤ q.1 ∧ q.1 ≤ 1000000000000) ∧ (-1000000000000 ≤ q.2 ∧ q.2 ≤ 1000000000000)) (x := (a, b)) ?_ ⟨rfl, rfl, ha, hb⟩ ?_
  · (apply Go.Ab.V.G.weak; constructor <;> simp (config := {decide := true}) only [PT.Le, inV, mkB, PT.set, VSt.kill, VSt.adopt, VSt.alloc, PT.filt, PT.map, List.map_cons, List.map_nil, noref, norefB, deadB, deadV, nos, nm, nmL, nmB, nmE, Pa.eqb, cond_true, cond_false, Bool.not_true, Bool.not_false, Bool.and_true, Bool.true_and, nmL_vi, flV_len, flP_len, flV_nm, flV_ok, flV_pv, flP_map, drop_flP, drop_flV, putC_flV, eqV2, eqV3, bneT, bneF, decide_true, decide_false, frzL_vi, frzL_flV, nmE_ag, nmE_at, frzE_ag, frzE_at, ofAg_len, ofAt_len, atL_vi, nmL_map_p, frzL_map_p, okL_p, toPVs_p, repsZ, nmL_reps, putC_vi, get_flV0, get_flV1, Int.toNat_zero, Int.toNat_one, Int.reduceToNat, eqV_slice, eqV_ptr, eqV_func, nilS, nilP, nilF, nmL_append, true_or, or_true, and_self, true_and, and_true, Option.some.injEq, reduceCtorEq, false_or, or_false, VV.p.injEq, PV.at.injEq, Value.int.injEq, sl1, vi, bl1, vb, nilV])
  rintro n ⟨x, y⟩ ⟨hn, hg, hx, hy⟩
  simp only at hn hg hx hy
  simp only [inV, PT.set]
  (repeat (first | refine VC.seq ?_ | refine VC.block ?_ | refine VC.kill ?_ | refine VC.skip ?_ | refine VC.exit ?_ | refine VC.regA ?_ | refine VC.condT ?_ | refine VC.condF ?_))
  refine VC.condA ?_ ?_ <;> intro h <;> (simp only [decide_eq_true_eq, decide_eq_false_iff_not, bne_iff_ne, ne_eq, bne_eq_false_iff_eq, beq_iff_eq, beq_eq_false_iff_ne, Bool.not_eq_true', Bool.not_eq_false', Bool.and_eq_true, Bool.or_eq_true, Int.natCast_inj] at h)
  · have hg2 := gcd_tmod x y
    have hb2 := tmod_bd x y h
    generalize hr : x.tmod y = r at *
    (repeat (first | refine VC.seq ?_ | refine VC.block ?_ | refine VC.kill ?_ | refine VC.skip ?_ | refine VC.exit ?_ | refine VC.regA ?_ | refine VC.condT ?_ | refine VC.condF ?_))
    ((try (apply VC.regU; · (exact vF @hr))); (repeat (first | refine VC.seq ?_ | refine VC.block ?_ | refine VC.kill ?_ | refine VC.skip ?_ | refine VC.exit ?_ | refine VC.regA ?_ | refine VC.condT ?_ | refine VC.condF ?_)))
    refine ⟨_, (y, r), ?_, ⟨rfl, hg2.trans hg, hy, ?_⟩, ?_⟩
    · omega
    · omega
    · (apply Go.Ab.V.G.weak; constructor <;> simp (config := {decide := true}) only [PT.Le, inV, mkB, PT.set, VSt.kill, VSt.adopt, VSt.alloc, PT.filt, PT.map, List.map_cons, List.map_nil, noref, norefB, deadB, deadV, nos, nm, nmL, nmB, nmE, Pa.eqb, cond_true, cond_false, Bool.not_true, Bool.not_false, Bool.and_true, Bool.true_and, nmL_vi, flV_len, flP_len, flV_nm, flV_ok, flV_pv, flP_map, drop_flP, drop_flV, putC_flV, eqV2, eqV3, bneT, bneF, decide_true, decide_false, frzL_vi, frzL_flV, nmE_ag, nmE_at, frzE_ag, frzE_at, ofAg_len, ofAt_len, atL_vi, nmL_map_p, frzL_map_p, okL_p, toPVs_p, repsZ, nmL_reps, putC_vi, get_flV0, get_flV1, Int.toNat_zero, Int.toNat_one, Int.reduceToNat, eqV_slice, eqV_ptr, eqV_func, nilS, nilP, nilF, nmL_append, true_or, or_true, and_self, true_and, and_true, Option.some.injEq, reduceCtorEq, false_or, or_false, VV.p.injEq, PV.at.injEq, Value.int.injEq, sl1, vi, bl1, vb, nilV])
      exact hr.symm
  · have h : y = 0 := by omega
    subst h
    have e : (Int.gcd a b : Int) = max x (0 - x) := by
      rw [← hg, Int.gcd_zero_right]; omega
    rw [e]
    (repeat (first | refine VC.seq ?_ | refine VC.block ?_ | refine VC.kill ?_ | refine VC.skip ?_ | refine VC.exit ?_ | refine VC.regA ?_ | refine VC.condT ?_ | refine VC.condF ?_))
    exact VC.ret (Fin.A rfl)
def nrm (a b : Nat) : Nat × Nat := (a / Nat.gcd a b, b / Nat.gcd a b)
theorem quoI {a g : Nat} (h : a < 4611686018427387904) : IntKind.i64.wrap ((a : Int) / (g : Int)) = ((a / g : Nat) : Int) := by
  rw [← Int.natCast_ediv]
  have := Nat.div_le_self a g
  generalize a / g = z at *
  exact wrapI (by omega) (by omega)
theorem gcd_pos {a b : Nat} (hb : 0 < b) : ¬((Nat.gcd a b : Nat) : Int) = 0 := by
  have := Nat.gcd_pos_of_pos_right a hb
  omega
set_option maxHeartbeats 1000000 in
theorem lowest_ok (a b : Nat) (ha : a ≤ 1000000000000) (hb : b ≤ 1000000000000) (h0 : 0 < b) : VCall cfg 78 [.agg [vi a, vi b]] [] [] (.agg [vi (nrm a b).1, vi (nrm a b).2]) [] := by
  have k := gcdP_ok a b (by omega) (by omega)
  rw [Int.gcd_natCast_natCast] at k
  have hg := gcd_pos (a := a) h0
  unfold nrm
  simp only
  generalize Nat.gcd a b = g at *
  have q1 := quoI (a := a) (g := g) (by omega)
  have q2 := quoI (a := b) (g := g) (by omega)
  (refine VCall.mk (fn := a78) rfl rfl rfl ?_; simp only [a78, inV, mkB, nmsL, PT.set])
  (repeat (first | refine VC.seq ?_ | refine VC.block ?_ | refine VC.kill ?_ | refine VC.skip ?_ | refine VC.exit ?_ | refine VC.regA ?_ | refine VC.condT ?_ | refine VC.condF ?_))
  (refine VC.regCA ?_; refine VO.moreA ?_; refine VO.call0A (no_orc _ (by decide)) k ?_; refine VO.endA ?_; (repeat (first | refine VC.seq ?_ | refine VC.block ?_ | refine VC.kill ?_ | refine VC.skip ?_ | refine VC.exit ?_ | refine VC.regA ?_ | refine VC.condT ?_ | refine VC.condF ?_)))
  refine VC.ret (Fin.A ?_)
  rw [q1, q2]; rfl
theorem nrm_den {a b : Nat} (hb : 0 < b) : 0 < (nrm a b).2 ∧ (nrm a b).2 ≤ b ∧ (nrm a b).1 ≤ a ∧ (nrm a b).1 * b = a * (nrm a b).2 := by
  have hg : 0 < Nat.gcd a b := Nat.gcd_pos_of_pos_right a hb
  unfold nrm
  obtain ⟨x, hx⟩ := Nat.gcd_dvd_left a b
  obtain ⟨y, hy⟩ := Nat.gcd_dvd_right a b
  refine ⟨?_, Nat.div_le_self .., Nat.div_le_self .., ?_⟩
  · exact Nat.div_pos (Nat.le_of_dvd hb (Nat.gcd_dvd_right a b)) hg
  · simp only
    generalize Nat.gcd a b = g at *
    subst hx hy
    rw [Nat.mul_div_cancel_left _ hg, Nat.mul_div_cancel_left _ hg]
    simp only [Nat.mul_comm, Nat.mul_left_comm, Nat.mul_assoc]
/-- Pairs of numbers: fractions. -/
def frI (l : List (Nat × Nat)) : List (Int × Int) := l.map fun q => ((q.1 : Int), (q.2 : Int))
set_option maxHeartbeats 2000000 in
theorem list_own (own : Bool) (l : List (Int × Int)) (hl : l.length ≤ 10) : VCall cfg 56 [slP l] [] (bif own then [p19] else []) (bif own then .os 2 p19 l.length else slP l) (bif own then [(p19, .cells (flV l))] else []) := by
  unfold slP
  (refine VCall.mk (fn := a56) rfl rfl rfl ?_; simp only [a56, inV, mkB, nmsL, PT.set])
  (repeat (first | refine VC.seq ?_ | refine VC.block ?_ | refine VC.kill ?_ | refine VC.skip ?_ | refine VC.exit ?_ | refine VC.regA ?_ | refine VC.condT ?_ | refine VC.condF ?_))
  refine VC.loopG (fun (i : Nat) => ⟨inV [p3, p6, p7, p8] [.os 2 p19 i, slP l, vi l.length, vi i] .lf, mkB [(p19, .cells (flV (l.take i)))] .lf, [], none⟩) (fun n i => n = l.length - i ∧ i ≤ l.length) (x := 0) ?_ ⟨rfl, Nat.zero_le _⟩ ?_
  · refine G.adoptA (p := p3) 2 p19 ?_
    exact gW
  rintro n i ⟨hn, hi⟩
  simp only [inV, PT.set, mkB, slP]
  have hll : (flV (l.take i)).length = i * 2 := by rw [flV_len, List.length_take]; omega
  have hnm := flV_nm (l.take i)
  have htk : ∀ h : i < l.length, flV (l.take (i + 1)) = flV (l.take i) ++ [vi l[i].1, vi l[i].2] := fun h => by rw [List.take_add_one, List.getElem?_eq_getElem h]; exact flV_snoc _ _ _
  have hfz : i = l.length → flV (l.take i) = flV l := fun e => by rw [e, List.take_length]
  generalize flV (l.take i) = Z at *
  (repeat (first | refine VC.seq ?_ | refine VC.block ?_ | refine VC.kill ?_ | refine VC.skip ?_ | refine VC.exit ?_ | refine VC.regA ?_ | refine VC.condT ?_ | refine VC.condF ?_))
  refine VC.condA ?_ ?_ <;> intro h <;> (simp only [decide_eq_true_eq, decide_eq_false_iff_not, bne_iff_ne, ne_eq, bne_eq_false_iff_eq, beq_iff_eq, beq_eq_false_iff_ne, Bool.not_eq_true', Bool.not_eq_false', Bool.and_eq_true, Bool.or_eq_true, Int.natCast_inj] at h)
  · have h : i < l.length := by omega
    have htk := htk h
    (repeat (first | refine VC.seq ?_ | refine VC.block ?_ | refine VC.kill ?_ | refine VC.skip ?_ | refine VC.exit ?_ | refine VC.regA ?_ | refine VC.condT ?_ | refine VC.condF ?_))
    ((try (apply VC.regU; · (exact vF (And.intro @hll @hnm)))); (repeat (first | refine VC.seq ?_ | refine VC.block ?_ | refine VC.kill ?_ | refine VC.skip ?_ | refine VC.exit ?_ | refine VC.regA ?_ | refine VC.condT ?_ | refine VC.condF ?_)))
    refine ⟨_, i + 1, ?_, ⟨rfl, by omega⟩, ?_⟩
    · omega
    · exact gF @htk
  · have h : i = l.length := by omega
    have hz := hfz h
    subst h hz
    (repeat (first | refine VC.seq ?_ | refine VC.block ?_ | refine VC.kill ?_ | refine VC.skip ?_ | refine VC.exit ?_ | refine VC.regA ?_ | refine VC.condT ?_ | refine VC.condF ?_))
    cases own
    · exact VC.ret (Fin.frzA p19 (hb := rfl) (hc := flV_pv _) (Fin.A rfl))
    · refine VC.ret (Fin.of rfl rfl ?_ rfl rfl ?_)
      · simp [mkB, PT.set, PT.Le, VSt.kill]
      · simp [subs, nm, nmL, nmsB, nmB, flV_nm, nos, Pa.eqb]
theorem list_ok (l : List (Int × Int)) (hl : l.length ≤ 10) : VCall cfg 56 [slP l] [] [] (slP l) [] := list_own false l hl
end Go.Ab.Dues

namespace Go.Ab.Dues
open Go.Ab.V
set_option maxRecDepth 100000
/-- The place of the first one that is meant. -/
def fnd (P : Int → Bool) (l : List Int) : Int := if l.any P = true then (l.findIdx P : Nat) else -1
theorem fnd_hit {P : Int → Bool} {l : List Int} {i : Nat} (h : i < l.length) (hv : P l[i] = true) (hn : ∀ k (hk : k < i), P (l[k]'(by omega)) = false) : fnd P l = i := by
  unfold fnd
  rw [if_pos (List.any_eq_true.2 ⟨_, List.getElem_mem h, hv⟩)]
  congr 1
  rw [List.findIdx_eq h]
  exact ⟨hv, fun j hj => hn j hj⟩
theorem fnd_pos (P : Int → Bool) (l : List Int) : decide (fnd P l ≥ 0) = l.any P := by
  unfold fnd
  cases h : l.any P with
  | true => rw [if_pos rfl]; simp
  | false => rw [if_neg (by simp)]; rfl
set_option maxHeartbeats 4000000 in
theorem IndexFunc_ok (l : List Int) (k : Nat) (hk : k ≠ 24) (pc : List PV) (P : Int → Bool) (hl : l.length ≤ 1000000) (hP : ∀ x ∈ l, VCall cfg k (vi x :: pc.map .p) [] [] (vb (P x)) []) : VCall cfg 82 [sl1 l, .clos k [] (pc.map .p)] [] [] (vi (fnd P l)) [] := by
  (refine VCall.mk (fn := a82) rfl rfl rfl ?_; simp only [a82, inV, mkB, nmsL, PT.set])
  (repeat (first | refine VC.seq ?_ | refine VC.block ?_ | refine VC.kill ?_ | refine VC.skip ?_ | refine VC.exit ?_ | refine VC.regA ?_ | refine VC.condT ?_ | refine VC.condF ?_))
  refine VC.loopG (fun (i : Nat) => ⟨inV [p0, p1, p7, p8] [sl1 l, .clos k [] (pc.map .p), vi l.length, vi i] .lf, .lf, [], none⟩) (fun n i => n = l.length - i ∧ i ≤ l.length ∧ ∀ k (hk : k < i) (hk' : k < l.length), P l[k] = false) (x := 0) ?_ ⟨rfl, by omega, fun k hk => absurd hk (Nat.not_lt_zero k)⟩ ?_
  · exact gW
  rintro n i ⟨hn, hi, ho⟩
  simp only [inV, PT.set]
  (repeat (first | refine VC.seq ?_ | refine VC.block ?_ | refine VC.kill ?_ | refine VC.skip ?_ | refine VC.exit ?_ | refine VC.regA ?_ | refine VC.condT ?_ | refine VC.condF ?_))
  refine VC.condA ?_ ?_ <;> intro h <;> (simp only [decide_eq_true_eq, decide_eq_false_iff_not, bne_iff_ne, ne_eq, bne_eq_false_iff_eq, beq_iff_eq, beq_eq_false_iff_ne, Bool.not_eq_true', Bool.not_eq_false', Bool.and_eq_true, Bool.or_eq_true, Int.natCast_inj] at h)
  · have h : i < l.length := by omega
    have kx := hP _ (List.getElem_mem h)
    (repeat (first | refine VC.seq ?_ | refine VC.block ?_ | refine VC.kill ?_ | refine VC.skip ?_ | refine VC.exit ?_ | refine VC.regA ?_ | refine VC.condT ?_ | refine VC.condF ?_))
    refine VC.regCA ?_
    refine VO.moreA ?_
    refine VO.call0A (no_orc k hk) kx ?_
    refine VO.endA ?_
    (repeat (first | refine VC.seq ?_ | refine VC.block ?_ | refine VC.kill ?_ | refine VC.skip ?_ | refine VC.exit ?_ | refine VC.regA ?_ | refine VC.condT ?_ | refine VC.condF ?_))
    cases hp : P l[i] with
    | true =>
      (repeat (first | refine VC.seq ?_ | refine VC.block ?_ | refine VC.kill ?_ | refine VC.skip ?_ | refine VC.exit ?_ | refine VC.regA ?_ | refine VC.condT ?_ | refine VC.condF ?_))
      rw [fnd_hit h hp (fun k hk => ho k hk (by omega))]
      exact VC.ret (Fin.A rfl)
    | false =>
      (repeat (first | refine VC.seq ?_ | refine VC.block ?_ | refine VC.kill ?_ | refine VC.skip ?_ | refine VC.exit ?_ | refine VC.regA ?_ | refine VC.condT ?_ | refine VC.condF ?_))
      refine ⟨_, i + 1, ?_, ⟨rfl, by omega, fun k hk hk' => ?_⟩, ?_⟩
      · omega
      · rcases Nat.lt_or_ge k i with h1 | h1
        · exact ho k h1 hk'
        · have : k = i := by omega
          subst this; exact hp
      · exact gW
  · have h : i = l.length := by omega
    have : fnd P l = -1 := by
      unfold fnd
      rw [if_neg]
      intro hm
      obtain ⟨x, hx, hp⟩ := List.any_eq_true.1 hm
      obtain ⟨k, hk, e⟩ := List.mem_iff_getElem.1 hx
      have := ho k (by omega) hk
      rw [e, hp] at this; cases this
    rw [this]
    (repeat (first | refine VC.seq ?_ | refine VC.block ?_ | refine VC.kill ?_ | refine VC.skip ?_ | refine VC.exit ?_ | refine VC.regA ?_ | refine VC.condT ?_ | refine VC.condF ?_))
    exact VC.ret (Fin.A rfl)
theorem ContainsFunc_ok (l : List Int) (k : Nat) (hk : k ≠ 24) (pc : List PV) (P : Int → Bool) (hl : l.length ≤ 1000000) (hP : ∀ x ∈ l, VCall cfg k (vi x :: pc.map .p) [] [] (vb (P x)) []) : VCall cfg 75 [sl1 l, .clos k [] (pc.map .p)] [] [] (vb (l.any P)) [] := by
  have k1 := IndexFunc_ok l k hk pc P hl hP
  rw [← fnd_pos]
  (refine VCall.mk (fn := a75) rfl rfl rfl ?_; simp only [a75, inV, mkB, nmsL, PT.set])
  (repeat (first | refine VC.seq ?_ | refine VC.block ?_ | refine VC.kill ?_ | refine VC.skip ?_ | refine VC.exit ?_ | refine VC.regA ?_ | refine VC.condT ?_ | refine VC.condF ?_))
  (refine VC.regCA ?_; refine VO.moreA ?_; refine VO.call0A (no_orc _ (by decide)) k1 ?_; refine VO.endA ?_; (repeat (first | refine VC.seq ?_ | refine VC.block ?_ | refine VC.kill ?_ | refine VC.skip ?_ | refine VC.exit ?_ | refine VC.regA ?_ | refine VC.condT ?_ | refine VC.condF ?_)))
  exact VC.ret (Fin.A rfl)
theorem chk1_ok (x n : Int) : VCall cfg 76 [vi x, .p (.fp 0 [pi n])] [] [] (vb (decide (x < 0) || decide (x ≥ n))) [] := by
  by_cases h : x < 0
  · (refine VCall.mk (fn := a76) rfl rfl rfl ?_; simp only [a76, inV, mkB, nmsL, PT.set])
    (repeat (first | refine VC.seq ?_ | refine VC.block ?_ | refine VC.kill ?_ | refine VC.skip ?_ | refine VC.exit ?_ | refine VC.regA ?_ | refine VC.condT ?_ | refine VC.condF ?_))
    rw [decide_eq_true h]
    exact VC.ret (Fin.A rfl)
  · (refine VCall.mk (fn := a76) rfl rfl rfl ?_; simp only [a76, inV, mkB, nmsL, PT.set])
    (repeat (first | refine VC.seq ?_ | refine VC.block ?_ | refine VC.kill ?_ | refine VC.skip ?_ | refine VC.exit ?_ | refine VC.regA ?_ | refine VC.condT ?_ | refine VC.condF ?_))
    rw [decide_eq_false h]
    exact VC.ret (Fin.A rfl)
/-- Canals. -/
structure okC (c : Can) : Prop where
  n1 : 1 ≤ c.up.length
  n10 : c.up.length ≤ 10
  cl : c.cost.length = c.up.length
  s7 : c.ships.length ≤ 7
  up0 : ∀ h : 0 < c.up.length, c.up[0] = -1
  ups : ∀ i (h : i < c.up.length), 0 < i → 0 ≤ c.up[i] ∧ c.up[i] < i
  cost : ∀ i (h : i < c.cost.length), 0 ≤ c.cost[i] ∧ c.cost[i] ≤ 1000
  ship : ∀ x ∈ c.ships, 0 ≤ x ∧ x < c.up.length
set_option maxHeartbeats 4000000 in
theorem Check_ok (c : Can) (h : okC c) : VCall cfg 50 [canV c] [] [] (vi 0) [] := by
  have h1 := h.n1
  have h2 := h.n10
  have h3 := h.cl
  have h4 := h.s7
  have kc := ContainsFunc_ok c.ships 76 (by decide) [.fp 0 [pi c.up.length]] (fun x => decide (x < 0) || decide (x ≥ c.up.length)) (by omega) fun x _ => chk1_ok x c.up.length
  have hany : (c.ships.any fun x => decide (x < 0) || decide (x ≥ (c.up.length : Int))) = false := by
    rw [List.any_eq_false]
    intro x hx
    have := h.ship x hx
    simp; omega
  rw [hany] at kc
  unfold canV
  (refine VCall.mk (fn := a50) rfl rfl rfl ?_; simp only [a50, inV, mkB, nmsL, PT.set])
  (repeat (first | refine VC.seq ?_ | refine VC.block ?_ | refine VC.kill ?_ | refine VC.skip ?_ | refine VC.exit ?_ | refine VC.regA ?_ | refine VC.condT ?_ | refine VC.condF ?_))
  refine VC.loopG (fun (i : Nat) => ⟨inV [p1, p3, p29, p30, p31] [.op 0 p1 0, .op 0 p3 0, sl1 c.up, vi c.up.length, vi i] .lf, mkB [(p1, .cells [sl1 c.up, sl1 c.cost, sl1 c.ships]), (p3, .cells [vi c.up.length])] .lf, [], none⟩) (fun n i => n = c.up.length - i ∧ i ≤ c.up.length) (x := 0) ?_ ⟨rfl, Nat.zero_le _⟩ ?_
  · exact gW
  rintro n i ⟨hn, hi⟩
  simp only [inV, PT.set, mkB]
  (repeat (first | refine VC.seq ?_ | refine VC.block ?_ | refine VC.kill ?_ | refine VC.skip ?_ | refine VC.exit ?_ | refine VC.regA ?_ | refine VC.condT ?_ | refine VC.condF ?_))
  refine VC.condA ?_ ?_ <;> intro h' <;> (simp only [decide_eq_true_eq, decide_eq_false_iff_not, bne_iff_ne, ne_eq, bne_eq_false_iff_eq, beq_iff_eq, beq_eq_false_iff_ne, Bool.not_eq_true', Bool.not_eq_false', Bool.and_eq_true, Bool.or_eq_true, Int.natCast_inj] at h')
  · have h' : i < c.up.length := by omega
    have h'' : i < c.cost.length := by omega
    have e1 := h.cost i h''
    have e0 : ¬c.cost[i] < 0 := by omega
    have e2 : ¬c.cost[i] > 1000 := by omega
    by_cases hz : i = 0
    · subst hz
      have e3 := h.up0 h'
      (repeat (first | refine VC.seq ?_ | refine VC.block ?_ | refine VC.kill ?_ | refine VC.skip ?_ | refine VC.exit ?_ | refine VC.regA ?_ | refine VC.condT ?_ | refine VC.condF ?_))
      refine ⟨_, 1, ?_, ⟨rfl, by omega⟩, ?_⟩
      · omega
      · exact gW
    · have e3 := h.ups i h' (by omega)
      have e4 : ¬c.up[i] < 0 := by omega
      have e5 : ¬c.up[i] ≥ (i : Int) := by omega
      have e6 : ¬(i : Int) = 0 := by omega
      have e7 : (i : Int) > 0 := by omega
      (repeat (first | refine VC.seq ?_ | refine VC.block ?_ | refine VC.kill ?_ | refine VC.skip ?_ | refine VC.exit ?_ | refine VC.regA ?_ | refine VC.condT ?_ | refine VC.condF ?_))
      refine ⟨_, i + 1, ?_, ⟨rfl, by omega⟩, ?_⟩
      · omega
      · exact gW
  · (repeat (first | refine VC.seq ?_ | refine VC.block ?_ | refine VC.kill ?_ | refine VC.skip ?_ | refine VC.exit ?_ | refine VC.regA ?_ | refine VC.condT ?_ | refine VC.condF ?_))
    refine VC.regCA ?_
    refine VO.moreA ?_
    refine VO.frzA p3 ?_
    refine VO.call0A (no_orc 75 (by decide)) kc ?_
    refine VO.endA ?_
    (repeat (first | refine VC.seq ?_ | refine VC.block ?_ | refine VC.kill ?_ | refine VC.skip ?_ | refine VC.exit ?_ | refine VC.regA ?_ | refine VC.condT ?_ | refine VC.condF ?_))
    exact VC.ret (Fin.A rfl)
end Go.Ab.Dues

namespace Go.Ab.Dues
open Go.Ab.V
set_option maxRecDepth 100000
/-- The pieces from a place down to the sea. -/
def chN (up : List Int) : Nat → Int → Nat
  | 0, _ => 0
  | n + 1, p => if 0 ≤ p then 2 ^ p.toNat ||| chN up n (up.getD p.toNat 0) else 0
def ch (c : Can) (p : Int) : Nat := chN c.up 11 p
theorem up_get {c : Can} (h : okC c) {p : Nat} (hp : p < c.up.length) : -1 ≤ c.up.getD p 0 ∧ c.up.getD p 0 < p := by
  rw [List.getD_eq_getElem?_getD, List.getElem?_eq_getElem hp, Option.getD_some]
  rcases Nat.eq_zero_or_pos p with e | e
  · subst e; rw [h.up0 hp]; omega
  · have := h.ups p hp e; omega
theorem chN_fuel {c : Can} (h : okC c) : ∀ (n m : Nat) (p : Int), -1 ≤ p → p < n → p < m → p < c.up.length → chN c.up n p = chN c.up m p
  | 0, 0, _, _, _, _, _ => rfl
  | 0, m + 1, p, h0, h1, _, _ => by simp only [chN]; rw [if_neg (by omega)]
  | n + 1, 0, p, h0, _, h1, _ => by simp only [chN]; rw [if_neg (by omega)]
  | n + 1, m + 1, p, h0, h1, h2, h3 => by
    simp only [chN]
    split
    · have := up_get h (p := p.toNat) (by omega)
      rw [chN_fuel h n m _ (by omega) (by omega) (by omega) (by omega)]
    · rfl
theorem ch_neg {c : Can} {p : Int} (hp : p < 0) : ch c p = 0 := by
  unfold ch; simp only [chN]; rw [if_neg (by omega)]
theorem ch_step {c : Can} (h : okC c) {p : Nat} (hp : p < c.up.length) : ch c p = 2 ^ p ||| ch c c.up[p] := by
  have h10 := h.n10
  have := up_get h hp
  unfold ch
  rw [show chN c.up 11 (p : Int) = (if 0 ≤ (p : Int) then 2 ^ (p : Int).toNat ||| chN c.up 10 (c.up.getD (p : Int).toNat 0) else 0) from rfl, if_pos (by omega), Int.toNat_natCast, chN_fuel h 10 11 _ this.1 (by omega) (by omega) (by omega)]
  rw [List.getD_eq_getElem?_getD, List.getElem?_eq_getElem hp, Option.getD_some]
theorem or_lt {a b m : Nat} (ha : a < 2 ^ m) (hb : b < 2 ^ m) : a ||| b < 2 ^ m := Nat.or_lt_two_pow ha hb
theorem ch_lt {c : Can} (h : okC c) : ∀ (n : Nat) (p : Int), p < n → p < c.up.length → ch c p < 1024
  | 0, p, hp, _ => by rw [ch_neg (by omega)]; decide
  | n + 1, p, hp, hl => by
    rcases (by omega : p < 0 ∨ 0 ≤ p) with h0 | h0
    · rw [ch_neg h0]; decide
    · obtain ⟨q, rfl⟩ := Int.eq_ofNat_of_zero_le h0
      have hq : q < c.up.length := by omega
      have h10 := h.n10
      have hu := up_get h hq
      rw [List.getD_eq_getElem?_getD, List.getElem?_eq_getElem hq, Option.getD_some] at hu
      rw [ch_step h hq]
      exact or_lt (m := 10) (Nat.pow_lt_pow_right (by decide) (by omega)) (ch_lt h n _ (by omega) (by omega))
theorem ch_lt' {c : Can} (h : okC c) (p : Int) (hp : p < c.up.length) : ch c p < 1024 := ch_lt h c.up.length p hp hp
/-- What each ship needs, of the first k ships. -/
def needK (c : Can) (k : Nat) : List Nat := (List.range 7).map fun s => if s < k then ch c (c.ships.getD s (-1)) else 0
theorem needK_len (c : Can) (k : Nat) : (needK c k).length = 7 := by simp [needK]
theorem needK_get (c : Can) (k s : Nat) (h : s < (needK c k).length) : (needK c k)[s] = if s < k then ch c (c.ships.getD s (-1)) else 0 := by simp [needK]
theorem needK_set (c : Can) (k : Nat) (hk : k < 7) : (needK c k).set k (ch c (c.ships.getD k (-1))) = needK c (k + 1) := by
  refine List.ext_getElem (by simp [needK]) fun i h1 h2 => ?_
  rw [List.getElem_set, needK_get, needK_get]
  split
  · rename_i e; subst e; rw [if_pos (by omega)]
  · rename_i e
    by_cases h : i < k
    · rw [if_pos h, if_pos (by omega)]
    · rw [if_neg h, if_neg (by omega)]
theorem nmL_nat : ∀ l : List Nat, nmL (l.map fun n : Nat => vi n) = []
  | [] => rfl
  | x :: l => by simp only [List.map_cons, nmL, nmL_nat l]; rfl
theorem nmL_nat' (l : List Nat) : nmL (l.map fun n : Nat => VV.p (.at (.int .i64 n))) = [] := nmL_nat l
/-- A fleet in memory. -/
def flC (c : Can) (nd : List Nat) (m : Pa) : List VV := sl1 c.up :: sl1 c.cost :: sl1 c.ships :: ((nd.map fun n : Nat => vi n) ++ [.om m])
theorem fl_get (c : Can) (nd : List Nat) (m : Pa) (s : Nat) (h : s < nd.length) : (flC c nd m)[3 + s]? = some (vi nd[s]) := by
  unfold flC
  rw [show 3 + s = s + 1 + 1 + 1 from by omega, List.getElem?_cons_succ, List.getElem?_cons_succ, List.getElem?_cons_succ, List.getElem?_append_left (by simpa using h), List.getElem?_map, List.getElem?_eq_getElem h]; rfl
theorem fl_map (c : Can) (nd : List Nat) (m : Pa) (h : nd.length = 7) : (flC c nd m)[10]? = some (.om m) := by
  unfold flC
  rw [List.getElem?_cons_succ, List.getElem?_cons_succ, List.getElem?_cons_succ, List.getElem?_append_right (by simp [h])]
  simp [h]
theorem fl_len (c : Can) (nd : List Nat) (m : Pa) : (flC c nd m).length = nd.length + 4 := by simp [flC]
theorem fl_put (c : Can) (nd : List Nat) (m : Pa) (s v : Nat) (h : s < nd.length) : putC (flC c nd m) (3 + s) [vi v] = flC c (nd.set s v) m := by
  rw [putC_one _ _ _ (by rw [fl_len]; omega)]
  unfold flC
  rw [show 3 + s = s + 1 + 1 + 1 from by omega, List.set_cons_succ, List.set_cons_succ, List.set_cons_succ, List.set_append_left _ _ (by simpa using h), ← List.map_set]
set_option maxHeartbeats 4000000 in
theorem open_ok (c : Can) (h : okC c) : VCall cfg 52 [canV c] [] [p16, p14] (.tup [.op 0 p16 0, vi 0]) [(p16, .cells (flC c (needK c c.ships.length) p14)), (p14, .map [])] := by
  have k1 := Check_ok c h
  have h7 := h.s7
  unfold canV at k1 ⊢
  (refine VCall.mk (fn := a52) rfl rfl rfl ?_; simp only [a52, inV, mkB, nmsL, PT.set])
  (repeat (first | refine VC.seq ?_ | refine VC.block ?_ | refine VC.kill ?_ | refine VC.skip ?_ | refine VC.exit ?_ | refine VC.regA ?_ | refine VC.condT ?_ | refine VC.condF ?_))
  (refine VC.regCA ?_; refine VO.moreA ?_; refine VO.call0A (no_orc _ (by decide)) k1 ?_; refine VO.endA ?_; (repeat (first | refine VC.seq ?_ | refine VC.block ?_ | refine VC.kill ?_ | refine VC.skip ?_ | refine VC.exit ?_ | refine VC.regA ?_ | refine VC.condT ?_ | refine VC.condF ?_)))
  have hf0 : flC c (needK c 0) p14 = [sl1 c.up, sl1 c.cost, sl1 c.ships, vi 0, vi 0, vi 0, vi 0, vi 0, vi 0, vi 0, .om p14] := rfl
  refine VC.loopG (fun (s : Nat) => ⟨inV [p1, p5, p18, p19, p20] [.op 0 p1 0, .op 0 p16 0, sl1 c.ships, vi c.ships.length, vi s] .lf, mkB [(p1, .cells [sl1 c.up, sl1 c.cost, sl1 c.ships]), (p16, .cells (flC c (needK c s) p14)), (p14, .map [])] .lf, [], none⟩) (fun n s => n = c.ships.length - s ∧ s ≤ c.ships.length) (x := 0) ?_ ⟨rfl, Nat.zero_le _⟩ ?_
  · exact gF @hf0
  rintro n s ⟨hn, hs⟩
  simp only [inV, PT.set, mkB]
  (repeat (first | refine VC.seq ?_ | refine VC.block ?_ | refine VC.kill ?_ | refine VC.skip ?_ | refine VC.exit ?_ | refine VC.regA ?_ | refine VC.condT ?_ | refine VC.condF ?_))
  refine VC.condA ?_ ?_ <;> intro h' <;> (simp only [decide_eq_true_eq, decide_eq_false_iff_not, bne_iff_ne, ne_eq, bne_eq_false_iff_eq, beq_iff_eq, beq_eq_false_iff_ne, Bool.not_eq_true', Bool.not_eq_false', Bool.and_eq_true, Bool.or_eq_true, Int.natCast_inj] at h')
  · have h' : s < c.ships.length := by omega
    have hsh := h.ship _ (List.getElem_mem h')
    have hgd : c.ships.getD s (-1) = c.ships[s] := by rw [List.getD_eq_getElem?_getD, List.getElem?_eq_getElem h']; rfl
    have hset := needK_set c s (by omega)
    rw [hgd] at hset
    have hlen := needK_len c s
    have h0 : ∀ (h : s < (needK c s).length), (needK c s)[s] = 0 := fun h => by rw [needK_get, if_neg (by omega)]
    generalize hND : needK c s = nd at *
    have h0' : nd.set s 0 = nd := by
      refine List.ext_getElem (by simp) fun i h1 h2 => ?_
      rw [List.getElem_set]; split
      · rename_i e; subst e; exact (h0 _).symm
      · rfl
    obtain ⟨q0, hq0⟩ := Int.eq_ofNat_of_zero_le hsh.1
    (repeat (first | refine VC.seq ?_ | refine VC.block ?_ | refine VC.kill ?_ | refine VC.skip ?_ | refine VC.exit ?_ | refine VC.regA ?_ | refine VC.condT ?_ | refine VC.condF ?_))
    refine VC.loopG (fun (q : Nat × Int) => ⟨inV [p1, p5, p6, p7, p18, p19, p20] [.op 0 p1 0, .op 0 p16 0, vi s, vi q.2, sl1 c.ships, vi c.ships.length, vi s] .lf, mkB [(p1, .cells [sl1 c.up, sl1 c.cost, sl1 c.ships]), (p16, .cells (flC c (nd.set s q.1) p14)), (p14, .map [])] .lf, [], none⟩) (fun n q => n = (q.2 + 1).toNat ∧ -1 ≤ q.2 ∧ q.2 < c.up.length ∧ q.1 < 1024 ∧ q.1 ||| ch c q.2 = ch c c.ships[s]) (x := (0, c.ships[s])) ?_ ⟨rfl, by simp only; omega, hsh.2, by simp, by simp⟩ ?_
    · exact gF @h0'
    rintro n' ⟨acc, p⟩ ⟨hn', hp0, hp1, hacc, hor⟩
    simp only at hn' hp0 hp1 hacc hor
    simp only [inV, PT.set, mkB]
    (repeat (first | refine VC.seq ?_ | refine VC.block ?_ | refine VC.kill ?_ | refine VC.skip ?_ | refine VC.exit ?_ | refine VC.regA ?_ | refine VC.condT ?_ | refine VC.condF ?_))
    refine VC.condA ?_ ?_ <;> intro h2 <;> (simp only [decide_eq_true_eq, decide_eq_false_iff_not, bne_iff_ne, ne_eq, bne_eq_false_iff_eq, beq_iff_eq, beq_eq_false_iff_ne, Bool.not_eq_true', Bool.not_eq_false', Bool.and_eq_true, Bool.or_eq_true, Int.natCast_inj] at h2)
    · obtain ⟨q, rfl⟩ := Int.eq_ofNat_of_zero_le h2
      have hq : q < c.up.length := by omega
      have h10 := h.n10
      have hu := up_get h hq
      rw [List.getD_eq_getElem?_getD, List.getElem?_eq_getElem hq, Option.getD_some] at hu
      have hstep := ch_step h hq
      have hsl : (nd.set s acc).length = 7 := by rw [List.length_set]; exact hlen
      have hgs := fl_get c (nd.set s acc) p14 s (by omega)
      have hga : (nd.set s acc)[s]'(by omega) = acc := by rw [List.getElem_set_self]
      rw [hga] at hgs
      have hmod : (q : Int) % 18446744073709551616 = (q : Int) := by omega
      have hsh1 := shl_one (n := q) (by omega)
      have hp10 : 2 ^ q < 1024 := Nat.pow_lt_pow_right (n := 10) (by decide) (by omega)
      have hor1 := or_i64 (a := acc) (b := 2 ^ q) (by omega) (by omega)
      have hpt := fl_put c (nd.set s acc) p14 s (acc ||| 2 ^ q) (by omega)
      rw [List.set_set] at hpt
      simp only [vi] at hpt
      have hl11 := fl_len c (nd.set s acc) p14
      (repeat (first | refine VC.seq ?_ | refine VC.block ?_ | refine VC.kill ?_ | refine VC.skip ?_ | refine VC.exit ?_ | refine VC.regA ?_ | refine VC.condT ?_ | refine VC.condF ?_))
      ((try (apply VC.regU; · (exact vF (And.intro @hmod (And.intro @hsh1 (And.intro @hgs (And.intro @hor1 @hpt))))))); (repeat (first | refine VC.seq ?_ | refine VC.block ?_ | refine VC.kill ?_ | refine VC.skip ?_ | refine VC.exit ?_ | refine VC.regA ?_ | refine VC.condT ?_ | refine VC.condF ?_)))
      refine ⟨_, (acc ||| 2 ^ q, c.up[q]), ?_, ⟨rfl, by simp only; omega, by simp only; omega, or_lt (m := 10) hacc hp10, ?_⟩, ?_⟩
      · simp only; omega
      · simp only
        rw [← hor, hstep, Nat.or_assoc]
      · exact gF @hpt
    · have h2 : p = -1 := by omega
      subst h2
      rw [ch_neg (by omega), Nat.or_zero] at hor
      (repeat (first | refine VC.seq ?_ | refine VC.block ?_ | refine VC.kill ?_ | refine VC.skip ?_ | refine VC.exit ?_ | refine VC.regA ?_ | refine VC.condT ?_ | refine VC.condF ?_))
      refine ⟨_, s + 1, ?_, ⟨rfl, by omega⟩, ?_⟩
      · omega
      · exact gF (And.intro @hor @hset)
  · have h' : s = c.ships.length := by omega
    subst h'
    (repeat (first | refine VC.seq ?_ | refine VC.block ?_ | refine VC.kill ?_ | refine VC.skip ?_ | refine VC.exit ?_ | refine VC.regA ?_ | refine VC.condT ?_ | refine VC.condF ?_))
    refine VC.ret (Fin.of rfl rfl ?_ rfl rfl ?_)
    · simp [mkB, PT.set, PT.Le, VSt.kill]
    · simp [subs, nm, nmL, nmsB, nmB, nmE, flC, nmL_append, nmL_nat', nos, Pa.eqb, vi, sl1]
end Go.Ab.Dues

namespace Go.Ab.Dues
open Go.Ab.V
set_option maxRecDepth 100000
/-! ### What a set costs -/
def pieces (nd : List Nat) (S : Nat) : Nat := (bitsN S).foldl (fun a s => a ||| nd.getD s 0) 0
def costP (cost : List Int) (P : Nat) : Int := sumL ((bitsN P).map fun p => cost.getD p 0)
def costS (c : Can) (S : Nat) : Int := costP c.cost (pieces (needK c c.ships.length) S)
def memo (c : Can) (M : List (Nat × Int)) (S : Nat) : List (Nat × Int) := if M.any (fun q => decide (q.1 = S)) = true then M else M ++ [(S, costS c S)]
def esM (M : List (Nat × Int)) : List (Value × VV) := M.map fun q => (.int .i64 q.1, vi q.2)
def okM (c : Can) (M : List (Nat × Int)) : Prop := ∀ q ∈ M, q.2 = costS c q.1
theorem okM_memo {c : Can} {M : List (Nat × Int)} (h : okM c M) (S : Nat) : okM c (memo c M S) := by
  unfold memo
  split
  · exact h
  · intro q hq
    rcases List.mem_append.1 hq with hq | hq
    · exact h q hq
    · rw [List.mem_singleton.1 hq]
theorem keyI (a b : Nat) : keyEq [CK.int] (.int .i64 a) (.int .i64 b) = some (decide (a = b)) := by
  simp [keyEq, cellEq, ibeq]
  omega
theorem find_esM (c : Can) : ∀ (M : List (Nat × Int)) (S : Nat), okM c M → findV [CK.int] (.int .i64 S) (esM M) = some (if M.any (fun q => decide (q.1 = S)) = true then some (vi (costS c S)) else none)
  | [], S, _ => rfl
  | q :: M, S, h => by
    have ih := find_esM c M S fun q hq => h q (List.mem_cons_of_mem _ hq)
    show (match keyEq [CK.int] (.int .i64 S) (.int .i64 q.1) with
      | some true => some (some (vi q.2))
      | some false => findV [CK.int] (.int .i64 S) (esM M)
      | none => none) = _
    rw [keyI]
    by_cases e : q.1 = S
    · rw [decide_eq_true e.symm, List.any_cons, decide_eq_true e, h q (List.mem_cons_self ..), e]; rfl
    · rw [decide_eq_false (fun h => e h.symm), List.any_cons, decide_eq_false e, Bool.false_or]
      exact ih
theorem set_esM : ∀ (M : List (Nat × Int)) (S : Nat) (v : VV), M.any (fun q => decide (q.1 = S)) = false → setE2 [CK.int] (.int .i64 S) v (esM M) = esM M ++ [(.int .i64 S, v)]
  | [], S, v, _ => rfl
  | q :: M, S, v, h => by
    rw [List.any_cons, Bool.or_eq_false_iff] at h
    have ih := set_esM M S v h.2
    have e : ¬q.1 = S := by simpa using h.1
    show (match keyEq [CK.int] (.int .i64 S) (.int .i64 q.1) with
      | some true => ((.int .i64 S, v) : Value × VV) :: esM M
      | _ => (.int .i64 q.1, vi q.2) :: setE2 [CK.int] (.int .i64 S) v (esM M)) = _
    rw [keyI, decide_eq_false (fun h => e h.symm), ih]; rfl
theorem esM_snoc (M : List (Nat × Int)) (S : Nat) (x : Int) : esM (M ++ [(S, x)]) = esM M ++ [(.int .i64 S, vi x)] := by simp [esM]
theorem bitsL_get (S i : Nat) (h : i < (bitsL S).length) : (bitsL S)[i] = (((bitsN S)[i]'(by simpa [bitsL] using h) : Nat) : Int) := by simp [bitsL]
theorem bitsN_mem {S i : Nat} : i ∈ bitsN S ↔ i < 10 ∧ S.testBit i = true := by simp [bitsN]
theorem bit_lt {S i n : Nat} (h : S < 2 ^ n) (hb : S.testBit i = true) : i < n := by
  rcases Nat.lt_or_ge i n with h1 | h1
  · exact h1
  · rw [Nat.testBit_lt_two_pow (Nat.lt_of_lt_of_le h (Nat.pow_le_pow_right (by decide) h1))] at hb; cases hb
theorem fold_take {α β : Type} (f : α → β → α) (a : α) (l : List β) (i : Nat) (h : i < l.length) : (l.take (i + 1)).foldl f a = f ((l.take i).foldl f a) l[i] := by
  rw [List.take_add_one, List.getElem?_eq_getElem h, List.foldl_append]; rfl
theorem needK_lt {c : Can} (h : okC c) (k s : Nat) : (needK c k).getD s 0 < 1024 := by
  rw [List.getD_eq_getElem?_getD]
  cases hc : (needK c k)[s]? with
  | none => decide
  | some x =>
    obtain ⟨hl, e⟩ := List.getElem?_eq_some_iff.1 hc
    rw [Option.getD_some, ← e, needK_get]
    split
    · refine ch_lt' h _ ?_
      rw [List.getD_eq_getElem?_getD]
      cases hs : c.ships[s]? with
      | none => have := h.n1; simp only [Option.getD_none]; omega
      | some x => exact (h.ship x (List.mem_of_getElem? hs)).2
    · decide
theorem fold_or_lt (nd : List Nat) (hnd : ∀ s, nd.getD s 0 < 1024) : ∀ (l : List Nat) (a : Nat), a < 1024 → l.foldl (fun a s => a ||| nd.getD s 0) a < 1024
  | [], a, h => h
  | s :: l, a, h => fold_or_lt nd hnd l _ (or_lt (m := 10) h (hnd s))
theorem pieces_lt {c : Can} (h : okC c) (k S : Nat) : pieces (needK c k) S < 1024 := fold_or_lt _ (needK_lt h k) _ _ (by decide)
/-- No piece that is no place is needed. -/
theorem ch_bit {c : Can} (h : okC c) {i : Nat} : ∀ (n : Nat) (p : Int), p < n → p < c.up.length → (ch c p).testBit i = true → i < c.up.length
  | 0, p, hp, _, hb => by rw [ch_neg (by omega)] at hb; simp at hb
  | n + 1, p, hp, hl, hb => by
    rcases (by omega : p < 0 ∨ 0 ≤ p) with h0 | h0
    · rw [ch_neg h0] at hb; simp at hb
    · obtain ⟨q, rfl⟩ := Int.eq_ofNat_of_zero_le h0
      have hq : q < c.up.length := by omega
      have hu := up_get h hq
      rw [List.getD_eq_getElem?_getD, List.getElem?_eq_getElem hq, Option.getD_some] at hu
      rw [ch_step h hq, Nat.testBit_or, Bool.or_eq_true] at hb
      rcases hb with hb | hb
      · rw [Nat.testBit_two_pow] at hb
        have : q = i := of_decide_eq_true hb
        omega
      · exact ch_bit h n _ (by omega) (by omega) hb
theorem needK_bit {c : Can} (h : okC c) {k s i : Nat} (hb : ((needK c k).getD s 0).testBit i = true) : i < c.up.length := by
  rw [List.getD_eq_getElem?_getD] at hb
  cases hc : (needK c k)[s]? with
  | none => rw [hc] at hb; simp at hb
  | some x =>
    rw [hc] at hb
    obtain ⟨hl, e⟩ := List.getElem?_eq_some_iff.1 hc
    rw [Option.getD_some, ← e, needK_get] at hb
    split at hb
    · refine ch_bit h c.up.length _ ?_ ?_ hb
      all_goals
        rw [List.getD_eq_getElem?_getD]
        cases hs : c.ships[s]? with
        | none => have := h.n1; simp only [Option.getD_none]; omega
        | some x => exact (h.ship x (List.mem_of_getElem? hs)).2
    · simp at hb
theorem fold_or_bit (nd : List Nat) (i : Nat) : ∀ (l : List Nat) (a : Nat), (l.foldl (fun a s => a ||| nd.getD s 0) a).testBit i = true ↔ a.testBit i = true ∨ ∃ s ∈ l, (nd.getD s 0).testBit i = true
  | [], a => by simp
  | s :: l, a => by
    rw [List.foldl_cons, fold_or_bit nd i l, Nat.testBit_or, Bool.or_eq_true]
    constructor
    · rintro ((h | h) | ⟨t, h1, h2⟩)
      · exact .inl h
      · exact .inr ⟨s, List.mem_cons_self .., h⟩
      · exact .inr ⟨t, List.mem_cons_of_mem _ h1, h2⟩
    · rintro (h | ⟨t, h1, h2⟩)
      · exact .inl (.inl h)
      · rcases List.mem_cons.1 h1 with rfl | h1
        · exact .inl (.inr h2)
        · exact .inr ⟨t, h1, h2⟩
theorem pieces_bit {nd : List Nat} {S i : Nat} : (pieces nd S).testBit i = true ↔ ∃ s ∈ bitsN S, (nd.getD s 0).testBit i = true := by
  unfold pieces; rw [fold_or_bit]; simp
theorem cost_getD {c : Can} (h : okC c) (p : Nat) : 0 ≤ c.cost.getD p 0 ∧ c.cost.getD p 0 ≤ 1000 := by
  rw [List.getD_eq_getElem?_getD]
  cases hc : c.cost[p]? with
  | none => simp
  | some x =>
    obtain ⟨hl, e⟩ := List.getElem?_eq_some_iff.1 hc
    have := h.cost p hl
    simp only [Option.getD_some]; omega
end Go.Ab.Dues

namespace Go.Ab.Dues
open Go.Ab.V
set_option maxRecDepth 100000
theorem fl_nm (c : Can) (nd : List Nat) (m : Pa) : nmL (flC c nd m) = [m] := by
  unfold flC
  simp only [nmL, nmL_append, nmL_nat, nm, sl1, List.nil_append, List.append_nil]
theorem es_nm : ∀ M : List (Nat × Int), nmE (esM M) = []
  | [] => rfl
  | q :: M => by show nm (vi q.2) ++ nmE (esM M) = []; rw [es_nm M]; rfl
theorem fl_frz (c : Can) (nd : List Nat) (m a : Pa) (cs : List PV) : frzL a cs (flC c nd m) = flC c nd m := by
  rw [frzL_eq]
  simp [flC, frzV, sl1, vi]
theorem es_frz (a : Pa) (cs : List PV) (M : List (Nat × Int)) : ((esM M).map fun e => (e.1, frzV a cs e.2)) = esM M := by
  unfold esM; rw [List.map_map]
  exact List.map_congr_left fun e _ => rfl
set_option maxHeartbeats 8000000 in
theorem cost_ok (c : Can) (h : okC c) (M : List (Nat × Int)) (hM : okM c M) (S : Nat) (hS : S < 2 ^ c.ships.length) :
    VCall cfg 68 [.op 0 p16 0, vi S] [(p16, .cells (flC c (needK c c.ships.length) p14)), (p14, .map (esM M))] [] (vi (costS c S)) [(p16, .cells (flC c (needK c c.ships.length) p14)), (p14, .map (esM (memo c M S)))] := by
  have h7 := h.s7
  have hS7 : S < 1024 := Nat.lt_of_lt_of_le hS (show 2 ^ c.ships.length ≤ 2 ^ 10 from Nat.pow_le_pow_right (by decide) (by omega))
  have hnl := needK_len c c.ships.length
  have hPl := pieces_lt h c.ships.length S
  have hmap := fl_map c (needK c c.ships.length) p14 hnl
  have hfind := find_esM c M S hM
  have hkey := keyI S S
  rw [decide_eq_true rfl] at hkey
  have hcs : costS c S = costP c.cost (pieces (needK c c.ships.length) S) := rfl
  have hfl1 : ∀ nd m, (flC c nd m)[1]? = some (sl1 c.cost) := fun _ _ => rfl
  have hndlt := needK_lt h c.ships.length
  have hpb : ∀ p ∈ bitsN (pieces (needK c c.ships.length) S), p < c.cost.length := fun p hp => by
    obtain ⟨s, _, hs⟩ := pieces_bit.1 (bitsN_mem.1 hp).2
    have := needK_bit h hs
    rw [h.cl]; exact this
  generalize hND : needK c c.ships.length = nd at *
  have hP := members_ok (pieces nd S) hPl
  (refine VCall.mk (fn := a68) rfl rfl rfl ?_; simp only [a68, inV, mkB, nmsL, PT.set])
  cases hany : M.any (fun q => decide (q.1 = S)) with
  | true =>
    rw [hany] at hfind
    simp only [if_true] at hfind
    have hmm : memo c M S = M := by unfold memo; rw [if_pos hany]
    rw [hmm]
    (repeat (first | refine VC.seq ?_ | refine VC.block ?_ | refine VC.kill ?_ | refine VC.skip ?_ | refine VC.exit ?_ | refine VC.regA ?_ | refine VC.condT ?_ | refine VC.condF ?_))
    ((try (apply VC.regU; · (exact vF (And.intro hmap (And.intro hfind hkey))))); (repeat (first | refine VC.seq ?_ | refine VC.block ?_ | refine VC.kill ?_ | refine VC.skip ?_ | refine VC.exit ?_ | refine VC.regA ?_ | refine VC.condT ?_ | refine VC.condF ?_)))
    refine VC.ret (Fin.of rfl rfl ?_ rfl rfl ?_)
    · simp [mkB, PT.set, PT.Le, VSt.kill]
    · simp [subs, nm, nmL, nmsB, nmB, es_nm, fl_nm, nos, Pa.eqb, vi, sl1]
  | false =>
    rw [hany] at hfind
    simp only [Bool.false_eq_true, if_false] at hfind
    have hk := members_ok S hS7
    (repeat (first | refine VC.seq ?_ | refine VC.block ?_ | refine VC.kill ?_ | refine VC.skip ?_ | refine VC.exit ?_ | refine VC.regA ?_ | refine VC.condT ?_ | refine VC.condF ?_))
    ((try (apply VC.regU; · (exact vF (And.intro hmap (And.intro hfind hkey))))); (repeat (first | refine VC.seq ?_ | refine VC.block ?_ | refine VC.kill ?_ | refine VC.skip ?_ | refine VC.exit ?_ | refine VC.regA ?_ | refine VC.condT ?_ | refine VC.condF ?_)))
    (refine VC.regCA ?_; refine VO.moreA ?_; refine VO.call0A (no_orc _ (by decide)) hk ?_; refine VO.endA ?_; (repeat (first | refine VC.seq ?_ | refine VC.block ?_ | refine VC.kill ?_ | refine VC.skip ?_ | refine VC.exit ?_ | refine VC.regA ?_ | refine VC.condT ?_ | refine VC.condF ?_)))
    have hbl : (bitsL S).length = (bitsN S).length := by simp [bitsL]
    have hacc : ∀ i, ((bitsN S).take i).foldl (fun a s => a ||| nd.getD s 0) 0 < 1024 := fun i => fold_or_lt nd hndlt _ 0 (by decide)
    have hb10 := bitsN_len S
    refine VC.loopG (fun (i : Nat) => ⟨inV [p0, p1, p7, p25, p26, p27] [.op 0 p16 0, vi S, vi (((bitsN S).take i).foldl (fun a s => a ||| nd.getD s 0) 0 : Nat), sl1 (bitsL S), vi (bitsL S).length, vi i] .lf, mkB [(p16, .cells (flC c nd p14)), (p14, .map (esM M))] .lf, [p16, p14], none⟩) (fun n i => n = (bitsN S).length - i ∧ i ≤ (bitsN S).length) (x := 0) ?_ ⟨rfl, Nat.zero_le _⟩ ?_
    · (apply Go.Ab.V.G.weak; constructor <;> simp (config := {decide := true}) only [PT.Le, inV, mkB, PT.set, VSt.kill, VSt.adopt, VSt.alloc, PT.filt, PT.map, List.map_cons, List.map_nil, noref, norefB, deadB, deadV, nos, nm, nmL, nmB, nmE, Pa.eqb, cond_true, cond_false, Bool.not_true, Bool.not_false, Bool.and_true, Bool.true_and, nmL_vi, flV_len, flP_len, flV_nm, flV_ok, flV_pv, flP_map, drop_flP, drop_flV, putC_flV, eqV2, eqV3, bneT, bneF, decide_true, decide_false, frzL_vi, frzL_flV, nmE_ag, nmE_at, frzE_ag, frzE_at, ofAg_len, ofAt_len, atL_vi, nmL_map_p, frzL_map_p, okL_p, toPVs_p, repsZ, nmL_reps, putC_vi, get_flV0, get_flV1, Int.toNat_zero, Int.toNat_one, Int.reduceToNat, eqV_slice, eqV_ptr, eqV_func, nilS, nilP, nilF, nmL_append, true_or, or_true, and_self, true_and, and_true, Option.some.injEq, reduceCtorEq, false_or, or_false, VV.p.injEq, PV.at.injEq, Value.int.injEq, sl1, vi, bl1, vb, nilV, sl1])
      (all_goals first | rfl | omega | exact ⟨rfl, by omega⟩)
    · rintro n i ⟨hn, hi⟩
      simp only [inV, PT.set, mkB]
      have ha := hacc i
      have hft : ∀ h : i < (bitsN S).length, ((bitsN S).take (i + 1)).foldl (fun a s => a ||| nd.getD s 0) 0 = ((bitsN S).take i).foldl (fun a s => a ||| nd.getD s 0) 0 ||| nd.getD (bitsN S)[i] 0 := fun h => fold_take _ _ _ _ h
      have hend : i = (bitsN S).length → ((bitsN S).take i).foldl (fun a s => a ||| nd.getD s 0) 0 = pieces nd S := fun e => by rw [e, List.take_length]; rfl
      generalize hA : ((bitsN S).take i).foldl (fun a s => a ||| nd.getD s 0) 0 = acc at *
      (repeat (first | refine VC.seq ?_ | refine VC.block ?_ | refine VC.kill ?_ | refine VC.skip ?_ | refine VC.exit ?_ | refine VC.regA ?_ | refine VC.condT ?_ | refine VC.condF ?_))
      refine VC.condA ?_ ?_ <;> intro h' <;> (simp only [decide_eq_true_eq, decide_eq_false_iff_not, bne_iff_ne, ne_eq, bne_eq_false_iff_eq, beq_iff_eq, beq_eq_false_iff_ne, Bool.not_eq_true', Bool.not_eq_false', Bool.and_eq_true, Bool.or_eq_true, Int.natCast_inj] at h')
      · have h' : i < (bitsN S).length := by omega
        have h'' : i < (bitsL S).length := by omega
        have hft := hft h'
        have hg := bitsL_get S i h''
        have hmem := bitsN_mem.1 (List.getElem_mem h')
        have hs7 := bit_lt hS hmem.2
        generalize hs : (bitsN S)[i] = s at *
        have hs' : s < nd.length := by omega
        have hgs := fl_get c nd p14 s hs'
        have hgd : nd.getD s 0 = nd[s] := by rw [List.getD_eq_getElem?_getD, List.getElem?_eq_getElem hs']; rfl
        have hlt := hndlt s
        rw [hgd] at hft hlt
        have hor1 := or_i64 (a := acc) (b := nd[s]) (by omega) (by omega)
        (repeat (first | refine VC.seq ?_ | refine VC.block ?_ | refine VC.kill ?_ | refine VC.skip ?_ | refine VC.exit ?_ | refine VC.regA ?_ | refine VC.condT ?_ | refine VC.condF ?_))
        simp only [hg]
        ((try (apply VC.regU; · (exact vF (And.intro hgs hor1)))); (repeat (first | refine VC.seq ?_ | refine VC.block ?_ | refine VC.kill ?_ | refine VC.skip ?_ | refine VC.exit ?_ | refine VC.regA ?_ | refine VC.condT ?_ | refine VC.condF ?_)))
        refine ⟨_, i + 1, ?_, ⟨rfl, by omega⟩, ?_⟩
        · omega
        · (apply Go.Ab.V.G.weak; constructor <;> simp (config := {decide := true}) only [PT.Le, inV, mkB, PT.set, VSt.kill, VSt.adopt, VSt.alloc, PT.filt, PT.map, List.map_cons, List.map_nil, noref, norefB, deadB, deadV, nos, nm, nmL, nmB, nmE, Pa.eqb, cond_true, cond_false, Bool.not_true, Bool.not_false, Bool.and_true, Bool.true_and, nmL_vi, flV_len, flP_len, flV_nm, flV_ok, flV_pv, flP_map, drop_flP, drop_flV, putC_flV, eqV2, eqV3, bneT, bneF, decide_true, decide_false, frzL_vi, frzL_flV, nmE_ag, nmE_at, frzE_ag, frzE_at, ofAg_len, ofAt_len, atL_vi, nmL_map_p, frzL_map_p, okL_p, toPVs_p, repsZ, nmL_reps, putC_vi, get_flV0, get_flV1, Int.toNat_zero, Int.toNat_one, Int.reduceToNat, eqV_slice, eqV_ptr, eqV_func, nilS, nilP, nilF, nmL_append, true_or, or_true, and_self, true_and, and_true, Option.some.injEq, reduceCtorEq, false_or, or_false, VV.p.injEq, PV.at.injEq, Value.int.injEq, sl1, vi, bl1, vb, nilV, sl1, hft])
          (all_goals first | rfl | omega | exact ⟨rfl, by omega⟩)
      · have h' : i = (bitsN S).length := by omega
        have hend := hend h'
        subst hend
        clear hft hacc ha hA
        have hpl : (bitsL (pieces nd S)).length = (bitsN (pieces nd S)).length := by simp [bitsL]
        have hb10 := bitsN_len (pieces nd S)
        have hPg : ∀ (k : Nat) (h : k < (bitsN (pieces nd S)).length), (bitsN (pieces nd S))[k] < c.cost.length := fun k h => hpb _ (List.getElem_mem h)
        have hPi : ∀ (k : Nat) (h : k < (bitsL (pieces nd S)).length) (h2 : k < (bitsN (pieces nd S)).length), (bitsL (pieces nd S))[k] = (((bitsN (pieces nd S))[k] : Nat) : Int) := fun k h _ => bitsL_get _ k h
        (repeat (first | refine VC.seq ?_ | refine VC.block ?_ | refine VC.kill ?_ | refine VC.skip ?_ | refine VC.exit ?_ | refine VC.regA ?_ | refine VC.condT ?_ | refine VC.condF ?_))
        (refine VC.regCA ?_; refine VO.moreA ?_; refine VO.call0A (no_orc _ (by decide)) hP ?_; refine VO.endA ?_; (repeat (first | refine VC.seq ?_ | refine VC.block ?_ | refine VC.kill ?_ | refine VC.skip ?_ | refine VC.exit ?_ | refine VC.regA ?_ | refine VC.condT ?_ | refine VC.condF ?_)))
        clear hk hP hend hpb
        generalize hB : bitsN (pieces nd S) = B at *
        generalize hX : bitsL (pieces nd S) = X at *
        have htk : ∀ (k : Nat) (h : k < B.length), (B.take (k + 1)).map (fun p => c.cost.getD p 0) = (B.take k).map (fun p => c.cost.getD p 0) ++ [c.cost.getD B[k] 0] := fun k h => by rw [List.take_add_one, List.getElem?_eq_getElem h, List.map_append]; rfl
        have hll : ∀ k, k ≤ B.length → ((B.take k).map (fun p => c.cost.getD p 0)).length = k := fun k hk => by rw [List.length_map, List.length_take]; omega
        refine VC.loopG (fun (k : Nat) => ⟨inV [p0, p1, p10, p41, p42, p43] [.op 0 p16 0, vi S, .os 1 p57 k, sl1 X, vi X.length, vi k] .lf, mkB [(p16, .cells (flC c nd p14)), (p14, .map (esM M)), (p57, .cells (((B.take k).map (fun p => c.cost.getD p 0)).map vi))] .lf, [p16, p14], none⟩) (fun n k => n = B.length - k ∧ k ≤ B.length) (x := 0) ?_ ⟨rfl, Nat.zero_le _⟩ ?_
        · refine G.adoptA (p := p10) 1 p57 ?_
          (apply Go.Ab.V.G.weak; constructor <;> simp (config := {decide := true}) only [PT.Le, inV, mkB, PT.set, VSt.kill, VSt.adopt, VSt.alloc, PT.filt, PT.map, List.map_cons, List.map_nil, noref, norefB, deadB, deadV, nos, nm, nmL, nmB, nmE, Pa.eqb, cond_true, cond_false, Bool.not_true, Bool.not_false, Bool.and_true, Bool.true_and, nmL_vi, flV_len, flP_len, flV_nm, flV_ok, flV_pv, flP_map, drop_flP, drop_flV, putC_flV, eqV2, eqV3, bneT, bneF, decide_true, decide_false, frzL_vi, frzL_flV, nmE_ag, nmE_at, frzE_ag, frzE_at, ofAg_len, ofAt_len, atL_vi, nmL_map_p, frzL_map_p, okL_p, toPVs_p, repsZ, nmL_reps, putC_vi, get_flV0, get_flV1, Int.toNat_zero, Int.toNat_one, Int.reduceToNat, eqV_slice, eqV_ptr, eqV_func, nilS, nilP, nilF, nmL_append, true_or, or_true, and_self, true_and, and_true, Option.some.injEq, reduceCtorEq, false_or, or_false, VV.p.injEq, PV.at.injEq, Value.int.injEq, sl1, vi, bl1, vb, nilV, sl1, fl_nm, es_nm])
          (all_goals first | rfl | omega | exact ⟨rfl, by omega⟩)
        rintro n k ⟨hn, hk⟩
        simp only [inV, PT.set, mkB]
        have hlk := hll k hk
        have htk := htk k
        generalize hLL : (B.take k).map (fun p => c.cost.getD p 0) = LL at *
        (repeat (first | refine VC.seq ?_ | refine VC.block ?_ | refine VC.kill ?_ | refine VC.skip ?_ | refine VC.exit ?_ | refine VC.regA ?_ | refine VC.condT ?_ | refine VC.condF ?_))
        refine VC.condA ?_ ?_ <;> intro h2 <;> (simp only [decide_eq_true_eq, decide_eq_false_iff_not, bne_iff_ne, ne_eq, bne_eq_false_iff_eq, beq_iff_eq, beq_eq_false_iff_ne, Bool.not_eq_true', Bool.not_eq_false', Bool.and_eq_true, Bool.or_eq_true, Int.natCast_inj] at h2)
        · have h2 : k < B.length := by omega
          have h3 : k < X.length := by omega
          have hpi := hPi k h3 h2
          have hpg := hPg k h2
          have htk := htk h2
          generalize hp : B[k] = p at *
          have hcd : c.cost.getD p 0 = c.cost[p] := by rw [List.getD_eq_getElem?_getD, List.getElem?_eq_getElem hpg]; rfl
          rw [hcd] at htk
          have hf1 := hfl1 nd p14
          simp only [sl1] at hf1
          (repeat (first | refine VC.seq ?_ | refine VC.block ?_ | refine VC.kill ?_ | refine VC.skip ?_ | refine VC.exit ?_ | refine VC.regA ?_ | refine VC.condT ?_ | refine VC.condF ?_))
          simp only [hpi]
          ((try (apply VC.regU; · (exact vF hf1))); (repeat (first | refine VC.seq ?_ | refine VC.block ?_ | refine VC.kill ?_ | refine VC.skip ?_ | refine VC.exit ?_ | refine VC.regA ?_ | refine VC.condT ?_ | refine VC.condF ?_)))
          refine ⟨_, k + 1, ?_, ⟨rfl, by omega⟩, ?_⟩
          · omega
          · (apply Go.Ab.V.G.weak; constructor <;> simp (config := {decide := true}) only [PT.Le, inV, mkB, PT.set, VSt.kill, VSt.adopt, VSt.alloc, PT.filt, PT.map, List.map_cons, List.map_nil, noref, norefB, deadB, deadV, nos, nm, nmL, nmB, nmE, Pa.eqb, cond_true, cond_false, Bool.not_true, Bool.not_false, Bool.and_true, Bool.true_and, nmL_vi, flV_len, flP_len, flV_nm, flV_ok, flV_pv, flP_map, drop_flP, drop_flV, putC_flV, eqV2, eqV3, bneT, bneF, decide_true, decide_false, frzL_vi, frzL_flV, nmE_ag, nmE_at, frzE_ag, frzE_at, ofAg_len, ofAt_len, atL_vi, nmL_map_p, frzL_map_p, okL_p, toPVs_p, repsZ, nmL_reps, putC_vi, get_flV0, get_flV1, Int.toNat_zero, Int.toNat_one, Int.reduceToNat, eqV_slice, eqV_ptr, eqV_func, nilS, nilP, nilF, nmL_append, true_or, or_true, and_self, true_and, and_true, Option.some.injEq, reduceCtorEq, false_or, or_false, VV.p.injEq, PV.at.injEq, Value.int.injEq, sl1, vi, bl1, vb, nilV, sl1, htk, List.map_append, fl_nm, es_nm])
            (all_goals first | rfl | omega | exact ⟨rfl, by omega⟩)
        · have h2 : k = B.length := by omega
          subst h2
          rw [List.take_length] at hLL
          have hsum := sum_ok LL (by omega) (fun x hx => by
            rw [← hLL] at hx
            obtain ⟨p, _, rfl⟩ := List.mem_map.1 hx
            have := cost_getD h p
            omega)
          have hcost : sumL LL = costS c S := by rw [hcs, ← hLL, ← hB]; rfl
          rw [hcost] at hsum
          have hnb : M.any (fun q => decide (q.1 = S)) = false := hany
          have hset := set_esM M S (vi (costS c S)) hnb
          have hmm : memo c M S = M ++ [(S, costS c S)] := by unfold memo; rw [if_neg (by rw [hany]; simp)]
          have hfind2 := find_esM c (memo c M S) S (okM_memo hM S)
          have hany2 : (memo c M S).any (fun q => decide (q.1 = S)) = true := by rw [hmm, List.any_append]; simp
          rw [hany2] at hfind2
          simp only [if_true] at hfind2
          rw [hmm, esM_snoc] at hfind2
          rw [hmm, esM_snoc]
          (repeat (first | refine VC.seq ?_ | refine VC.block ?_ | refine VC.kill ?_ | refine VC.skip ?_ | refine VC.exit ?_ | refine VC.regA ?_ | refine VC.condT ?_ | refine VC.condF ?_))
          refine VC.frzA p57 (hb := rfl) (hc := toPVs_vi LL) ?_
          simp only [VSt.frz, PT.map, frzL, frzV, frzB, Option.map_some, Option.map_none, fl_frz, es_frz, PT.set, PT.filt, VSt.kill, Pa.eqb, cond_true, cond_false, Bool.and_true, Bool.and_false, Bool.false_and, Bool.true_and]
          refine VC.planP [p16] rfl ?_
          (apply VPl.run; · (exact vPlF hmap))
          refine VPl.call (no_orc 71 (by decide)) hsum ?_ rfl rfl rfl ?_
          · (simp (config := {decide := false, maxSteps := 1000000}) (disch := omega) only [vev_call, putC_c0, putC_n0, putC_cs, ble0, List.getElem?_cons_zero, List.getElem?_cons_succ, runU, isCall, wantV, vev, evV, ofVal, ofAtom, atomB, cond_true, cond_false, PT.get, PT.set, PT.filt, PT.map, Option.getD_some, Option.getD_none, ret1V, ret1X, v_ld, v_ias, v_iad, v_fad, v_slsl, v_slarr, v_st, v_app, v_cpy, v_clr, v_len, v_look, v_mset, elsV, partV, newV, free, atV, atI, atL, toVal, cellsV, okV, VSt.put, VSt.kill, VSt.alloc, VSt.frz, VSt.adopt, noref, norefB, deadB, deadV, nos, nm, nmL, nmB, nmE, Pa.eqb, Bool.not_false, Bool.not_true, Bool.and_true, Bool.true_and, Bool.false_and, Bool.and_false, bin, intOps, intBin, cvt, un, goInt, bndsV, bndV, Option.map_some, Option.map_none, List.map_cons, List.map_nil, Int.toNat_natCast, Nat.mul_one, Nat.zero_add, beq_true, beq_false, beq_self_eq_true, List.length_map, List.length_cons, List.length_nil, List.length_append, fillV, pEvV, repsV, List.append_nil, List.nil_append, if_pos, if_neg, reduceIte, List.getElem?_map, List.getElem?_drop, Nat.add_zero, List.getElem?_eq_getElem, Go.IntWalk.i64_in, wrap_u64, tmod_pos, eq_self, true_and, and_true, and_self, List.all_cons, List.all_nil, nmL_vi, flV_len, flP_len, flV_nm, flV_ok, flV_pv, flP_map, drop_flP, drop_flV, putC_flV, eqV2, eqV3, bneT, bneF, decide_true, decide_false, frzL_vi, frzL_flV, nmE_ag, nmE_at, frzE_ag, frzE_at, ofAg_len, ofAt_len, atL_vi, nmL_map_p, frzL_map_p, okL_p, toPVs_p, repsZ, nmL_reps, putC_vi, get_flV0, get_flV1, Int.toNat_zero, Int.toNat_one, Int.reduceToNat, eqV_slice, eqV_ptr, eqV_func, nilS, nilP, nilF, nmL_append, okL_vi, toPVs_vi, toPVs, toPV, frzV, frzL, frzB, resVV, vi, vb, nilV, sl1, bl1, pi, foldV, max2, min2, max_eq, min_eq, Int.tdiv_eq_ediv_of_nonneg, Int.cast_ofNat_Int, Option.isSome_none, Option.isSome_some, Option.isNone_none, Option.isNone_some, and_false, false_and, sl2, sl1P, slP, min_cast, take_map_pi, map_pi, Nat.sub_zero, Nat.zero_mul, List.length_take, decide_eq_true, decide_eq_false, Bool.true_eq_false, Bool.false_eq_true, beqT, beqF, ibeq, ibne, List.take_zero, List.take_succ_cons, List.drop_zero, List.drop_succ_cons, List.drop_nil, List.take_nil, List.cons_append, Bool.not_true, Bool.not_false, hlk, sl1])
          (apply VPl.run; · (exact vPl))
          refine VPl.stop (by decide) ?_
          apply VO.uptoE
          · simp only [vi] at hset
            (simp (config := {decide := false, maxSteps := 1000000}) (disch := omega) only [vev_call, putC_c0, putC_n0, putC_cs, ble0, List.getElem?_cons_zero, List.getElem?_cons_succ, runU, isCall, wantV, vev, evV, ofVal, ofAtom, atomB, cond_true, cond_false, PT.get, PT.set, PT.filt, PT.map, Option.getD_some, Option.getD_none, ret1V, ret1X, v_ld, v_ias, v_iad, v_fad, v_slsl, v_slarr, v_st, v_app, v_cpy, v_clr, v_len, v_look, v_mset, elsV, partV, newV, free, atV, atI, atL, toVal, cellsV, okV, VSt.put, VSt.kill, VSt.alloc, VSt.frz, VSt.adopt, noref, norefB, deadB, deadV, nos, nm, nmL, nmB, nmE, Pa.eqb, Bool.not_false, Bool.not_true, Bool.and_true, Bool.true_and, Bool.false_and, Bool.and_false, bin, intOps, intBin, cvt, un, goInt, bndsV, bndV, Option.map_some, Option.map_none, List.map_cons, List.map_nil, Int.toNat_natCast, Nat.mul_one, Nat.zero_add, beq_true, beq_false, beq_self_eq_true, List.length_map, List.length_cons, List.length_nil, List.length_append, fillV, pEvV, repsV, List.append_nil, List.nil_append, if_pos, if_neg, reduceIte, List.getElem?_map, List.getElem?_drop, Nat.add_zero, List.getElem?_eq_getElem, Go.IntWalk.i64_in, wrap_u64, tmod_pos, eq_self, true_and, and_true, and_self, List.all_cons, List.all_nil, nmL_vi, flV_len, flP_len, flV_nm, flV_ok, flV_pv, flP_map, drop_flP, drop_flV, putC_flV, eqV2, eqV3, bneT, bneF, decide_true, decide_false, frzL_vi, frzL_flV, nmE_ag, nmE_at, frzE_ag, frzE_at, ofAg_len, ofAt_len, atL_vi, nmL_map_p, frzL_map_p, okL_p, toPVs_p, repsZ, nmL_reps, putC_vi, get_flV0, get_flV1, Int.toNat_zero, Int.toNat_one, Int.reduceToNat, eqV_slice, eqV_ptr, eqV_func, nilS, nilP, nilF, nmL_append, okL_vi, toPVs_vi, toPVs, toPV, frzV, frzL, frzB, resVV, vi, vb, nilV, sl1, bl1, pi, foldV, max2, min2, max_eq, min_eq, Int.tdiv_eq_ediv_of_nonneg, Int.cast_ofNat_Int, Option.isSome_none, Option.isSome_some, Option.isNone_none, Option.isNone_some, and_false, false_and, sl2, sl1P, slP, min_cast, take_map_pi, map_pi, Nat.sub_zero, Nat.zero_mul, List.length_take, decide_eq_true, decide_eq_false, Bool.true_eq_false, Bool.false_eq_true, beqT, beqF, ibeq, ibne, List.take_zero, List.take_succ_cons, List.drop_zero, List.drop_succ_cons, List.drop_nil, List.take_nil, List.cons_append, Bool.not_true, Bool.not_false, hkey, hfind, hset, Option.isSome_none, Option.isSome_some])
            rfl
          (repeat (first | refine VC.seq ?_ | refine VC.block ?_ | refine VC.kill ?_ | refine VC.skip ?_ | refine VC.exit ?_ | refine VC.regA ?_ | refine VC.condT ?_ | refine VC.condF ?_))
          simp only [vi] at hfind2
          ((try (apply VC.regU; · (exact vF (And.intro hmap (And.intro hfind2 hkey))))); (repeat (first | refine VC.seq ?_ | refine VC.block ?_ | refine VC.kill ?_ | refine VC.skip ?_ | refine VC.exit ?_ | refine VC.regA ?_ | refine VC.condT ?_ | refine VC.condF ?_)))
          refine VC.ret (Fin.of rfl rfl ?_ rfl rfl ?_)
          · simp [mkB, PT.set, PT.Le, VSt.kill, vi]
          · have hnn : nmE (esM M ++ [(Value.int .i64 S, vi (costS c S))]) = [] := by rw [← esM_snoc]; exact es_nm _
            simp only [vi] at hnn
            simp [subs, nm, nmL, nmsB, nmB, hnn, fl_nm, nos, Pa.eqb, vi, sl1]
end Go.Ab.Dues

namespace Go.Ab.Dues
open Go.Ab.V
set_option maxRecDepth 100000
theorem fl_ships (c : Can) (nd : List Nat) (m : Pa) : (flC c nd m)[2]? = some (sl1 c.ships) := rfl
set_option maxHeartbeats 4000000 in
theorem all_ok (c : Can) (h7 : c.ships.length ≤ 7) (nd : List Nat) (es : List (Nat × Int)) :
    VCall cfg 57 [.op 0 p16 0] [(p16, .cells (flC c nd p14)), (p14, .map (esM es))] [] (vi ((2 ^ c.ships.length - 1 : Nat) : Int)) [(p16, .cells (flC c nd p14)), (p14, .map (esM es))] := by
  have hf := fl_ships c nd p14
  simp only [sl1] at hf
  have hm : (c.ships.length : Int) % 18446744073709551616 = c.ships.length := by omega
  have hs := shl_one (n := c.ships.length) (by omega)
  have hp : 2 ^ c.ships.length ≤ 2 ^ 7 := Nat.pow_le_pow_right (by decide) h7
  have hp0 : 0 < 2 ^ c.ships.length := Nat.pow_pos (by decide)
  have hp : 2 ^ c.ships.length ≤ 128 := hp
  generalize 2 ^ c.ships.length = w at *
  have hsub : (w : Int) - 1 = ((w - 1 : Nat) : Int) := by omega
  have hnm := fl_nm c nd p14
  generalize flC c nd p14 = FL at *
  (refine VCall.mk (fn := a57) rfl rfl rfl ?_; simp only [a57, inV, mkB, nmsL, PT.set])
  (repeat (first | refine VC.seq ?_ | refine VC.block ?_ | refine VC.kill ?_ | refine VC.skip ?_ | refine VC.exit ?_ | refine VC.regA ?_ | refine VC.condT ?_ | refine VC.condF ?_))
  ((try (apply VC.regU; · (exact vF (And.intro @hf (And.intro @hm @hs))))); (repeat (first | refine VC.seq ?_ | refine VC.block ?_ | refine VC.kill ?_ | refine VC.skip ?_ | refine VC.exit ?_ | refine VC.regA ?_ | refine VC.condT ?_ | refine VC.condF ?_)))
  rw [← hsub]
  refine VC.ret (Fin.of rfl rfl ?_ rfl rfl ?_)
  · simp [mkB, PT.set, PT.Le, VSt.kill]
  · simp [subs, nm, vi, nmsB, nmB, hnm, es_nm, nos, Pa.eqb]
set_option maxHeartbeats 4000000 in
theorem openSet_ok (c : Can) (h : okC c) (S : Nat) (hS : S < 2 ^ c.ships.length) :
    VCall cfg 70 [canV c, vi S] [] [p16, p14] (.tup [.op 0 p16 0, vi 0]) [(p16, .cells (flC c (needK c c.ships.length) p14)), (p14, .map [])] := by
  have k1 := open_ok c h
  have k2 := all_ok c h.s7 (needK c c.ships.length) []
  have hle : ¬((S : Int) > ((2 ^ c.ships.length - 1 : Nat) : Int)) := by omega
  have he : esM [] = [] := rfl
  rw [he] at k2
  have hnm := fl_nm c (needK c c.ships.length) p14
  generalize flC c (needK c c.ships.length) p14 = FL at *
  unfold canV at k1 ⊢
  (refine VCall.mk (fn := a70) rfl rfl rfl ?_; simp only [a70, inV, mkB, nmsL, PT.set])
  (repeat (first | refine VC.seq ?_ | refine VC.block ?_ | refine VC.kill ?_ | refine VC.skip ?_ | refine VC.exit ?_ | refine VC.regA ?_ | refine VC.condT ?_ | refine VC.condF ?_))
  refine VC.regCA ?_
  refine VO.moreA ?_
  refine VO.callN (no_orc 52 (by decide)) k1 rfl rfl rfl rfl rfl rfl ?_
  (simp only [filtN, filtNB, mkB, PT.set, VSt.put, PT.filt, noref, norefB, nos, nm, nmL, nmB, nmL_vi, nmL_map_p, nmE_ag, flV_nm, List.nil_append, List.append_nil, Pa.eqb, cond_true, cond_false, Bool.and_true, Bool.not_false, Bool.not_true])
  refine VO.endA ?_
  (repeat (first | refine VC.seq ?_ | refine VC.block ?_ | refine VC.kill ?_ | refine VC.skip ?_ | refine VC.exit ?_ | refine VC.regA ?_ | refine VC.condT ?_ | refine VC.condF ?_))
  refine VC.regCA ?_
  refine VO.moreA ?_
  refine VO.call [] [(p16, .cells FL), (p14, .map [])] (mkB [(p2, .cells [sl1 c.up, sl1 c.cost, sl1 c.ships])] .lf) rfl rfl (no_orc 57 (by decide)) k2 trivial ?_ ?_ rfl rfl rfl rfl rfl rfl rfl ?_
  · simp [mkB, PT.set, PT.Le, VSt.kill]
  · simp [mkB, PT.set, PT.Le, VSt.kill, sl1]
  (simp only [filtN, filtNB, mkB, PT.set, VSt.put, PT.filt, noref, norefB, nos, nm, nmL, nmB, nmL_vi, nmL_map_p, nmE_ag, flV_nm, List.nil_append, List.append_nil, Pa.eqb, cond_true, cond_false, Bool.and_true, Bool.not_false, Bool.not_true])
  generalize ((2 ^ c.ships.length - 1 : Nat) : Int) = w at *
  refine VO.endA ?_
  (repeat (first | refine VC.seq ?_ | refine VC.block ?_ | refine VC.kill ?_ | refine VC.skip ?_ | refine VC.exit ?_ | refine VC.regA ?_ | refine VC.condT ?_ | refine VC.condF ?_))
  refine VC.ret (Fin.of rfl rfl ?_ rfl rfl ?_)
  · simp [mkB, PT.set, PT.Le, VSt.kill]
  · simp [subs, nm, nmL, vi, nmsB, nmB, nmE, hnm, nos, Pa.eqb]
set_option maxHeartbeats 4000000 in
theorem CostOf_ok (c : Can) (h : okC c) (S : Nat) (hS : S < 2 ^ c.ships.length) : VCall cfg 31 [canV c, vi S] [] [] (.tup [vi (costS c S), vi 0]) [] := by
  have k1 := openSet_ok c h S hS
  have k2 := cost_ok c h [] (fun q hq => by cases hq) S hS
  have he : esM [] = [] := rfl
  rw [he] at k2
  generalize hES : esM (memo c [] S) = ES at *
  have hes : nmE ES = [] := by rw [← hES]; exact es_nm _
  have hnm := fl_nm c (needK c c.ships.length) p14
  generalize flC c (needK c c.ships.length) p14 = FL at *
  unfold canV at k1 ⊢
  (refine VCall.mk (fn := a31) rfl rfl rfl ?_; simp only [a31, inV, mkB, nmsL, PT.set])
  (repeat (first | refine VC.seq ?_ | refine VC.block ?_ | refine VC.kill ?_ | refine VC.skip ?_ | refine VC.exit ?_ | refine VC.regA ?_ | refine VC.condT ?_ | refine VC.condF ?_))
  refine VC.regCA ?_
  refine VO.moreA ?_
  refine VO.callN (no_orc 70 (by decide)) k1 rfl rfl rfl rfl rfl rfl ?_
  (simp only [filtN, filtNB, mkB, PT.set, VSt.put, PT.filt, noref, norefB, nos, nm, nmL, nmB, nmL_vi, nmL_map_p, nmE_ag, flV_nm, List.nil_append, List.append_nil, Pa.eqb, cond_true, cond_false, Bool.and_true, Bool.not_false, Bool.not_true])
  refine VO.endA ?_
  (repeat (first | refine VC.seq ?_ | refine VC.block ?_ | refine VC.kill ?_ | refine VC.skip ?_ | refine VC.exit ?_ | refine VC.regA ?_ | refine VC.condT ?_ | refine VC.condF ?_))
  refine VC.regCA ?_
  refine VO.moreA ?_
  refine VO.call [] [(p16, .cells FL), (p14, .map [])] (mkB [(p2, .cells [sl1 c.up, sl1 c.cost, sl1 c.ships])] .lf) rfl rfl (no_orc 68 (by decide)) k2 trivial ?_ ?_ rfl rfl rfl rfl rfl rfl rfl ?_
  · simp [mkB, PT.set, PT.Le, VSt.kill]
  · simp [mkB, PT.set, PT.Le, VSt.kill, sl1]
  (simp only [filtN, filtNB, mkB, PT.set, VSt.put, PT.filt, noref, norefB, nos, nm, nmL, nmB, nmL_vi, nmL_map_p, nmE_ag, flV_nm, List.nil_append, List.append_nil, Pa.eqb, cond_true, cond_false, Bool.and_true, Bool.not_false, Bool.not_true])
  refine VO.endA ?_
  (repeat (first | refine VC.seq ?_ | refine VC.block ?_ | refine VC.kill ?_ | refine VC.skip ?_ | refine VC.exit ?_ | refine VC.regA ?_ | refine VC.condT ?_ | refine VC.condF ?_))
  exact VC.ret (Fin.A rfl)
end Go.Ab.Dues

namespace Go.Ab.Dues
open Go.Ab.V
set_option maxRecDepth 100000
theorem bit_and (a p : Nat) : (a >>> p) &&& 1 = if a.testBit p = true then 1 else 0 := by
  rw [Nat.and_one_is_mod]
  have : a.testBit p = decide ((a >>> p) % 2 = 1) := by
    rw [Nat.testBit_eq_decide_div_mod_eq, Nat.shiftRight_eq_div_pow]
  rw [this]
  by_cases h : a >>> p % 2 = 1
  · rw [decide_eq_true h, if_pos rfl, h]
  · rw [decide_eq_false h, if_neg (by simp)]; omega
end Go.Ab.Dues

namespace Go.Ab.Dues
open Go.Ab.V
set_option maxRecDepth 100000
theorem sumL_pos : ∀ (l : List Int) (m : Nat), (∀ x ∈ l, 0 ≤ x ∧ x ≤ m) → 0 ≤ sumL l ∧ sumL l ≤ ((l.length * m : Nat) : Int) := fun l m h => by
  have key : ∀ i, i ≤ l.length → 0 ≤ sumL (l.take i) ∧ sumL (l.take i) ≤ ((i * m : Nat) : Int) := by
    intro i
    induction i with
    | zero => intro _; simp [sumL]
    | succ i ih =>
      intro hi
      have := ih (by omega)
      have hx := h _ (List.getElem_mem (show i < l.length by omega))
      rw [sumL_take (show i < l.length by omega), Nat.succ_mul]
      omega
  have := key l.length (Nat.le_refl _)
  rw [List.take_length] at this; exact this
theorem costS_bd {c : Can} (h : okC c) (S : Nat) : 0 ≤ costS c S ∧ costS c S ≤ 10000 := by
  have := sumL_pos ((bitsN (pieces (needK c c.ships.length) S)).map fun p => c.cost.getD p 0) 1000 (fun x hx => by
    obtain ⟨p, _, rfl⟩ := List.mem_map.1 hx
    exact cost_getD h p)
  rw [List.length_map] at this
  have hl := bitsN_len (pieces (needK c c.ships.length) S)
  have h2 : (bitsN (pieces (needK c c.ships.length) S)).length * 1000 ≤ 10 * 1000 := Nat.mul_le_mul_right _ hl
  unfold costS costP
  omega
end Go.Ab.Dues

namespace Go.Ab.Dues
open Go.Ab.V
set_option maxRecDepth 100000
end Go.Ab.Dues

namespace Go.Ab.Dues
open Go.Ab.V
set_option maxRecDepth 100000
def bitsTo (S i : Nat) : List Nat := (List.range i).filter fun k => S.testBit k
theorem bitsTo_succ (S i : Nat) : bitsTo S (i + 1) = if S.testBit i = true then bitsTo S i ++ [i] else bitsTo S i := by
  unfold bitsTo
  rw [List.range_succ, List.filter_append, List.filter_cons]
  split <;> simp
theorem bit_mod (a p : Nat) : (a >>> p) % 2 = if a.testBit p = true then 1 else 0 := by
  rw [← Nat.and_one_is_mod, bit_and]
theorem fdivI {a : Nat} {p : Nat} (hp : p < 64) : ((a : Nat) : Int).fdiv (2 ^ min ((p : Int)).toNat IntKind.i64.bits) = ((a >>> p : Nat) : Int) := by
  have e : ((2 : Int) ^ p) = ((2 ^ p : Nat) : Int) := by simp
  rw [bits_i64, Int.toNat_natCast, Nat.min_eq_left (by omega), e, Int.fdiv_eq_ediv_of_nonneg _ (Int.natCast_nonneg _), ← Int.natCast_ediv, Nat.shiftRight_eq_div_pow]
theorem canNeed {c : Can} {s : Nat} (hs : s < c.ships.length) : c.ships.getD s (-1) = c.ships[s] := by rw [List.getD_eq_getElem?_getD, List.getElem?_eq_getElem hs]; rfl
theorem shl_w {q : Nat} (h : q < 62) : IntKind.i64.wrap (1 * 2 ^ min q IntKind.i64.bits) = ((2 ^ q : Nat) : Int) := by
  have := shl_one h
  unfold shlA at this
  rw [if_neg (by omega), Int.toNat_natCast] at this
  injection this with this
  injection this
set_option maxHeartbeats 4000000 in
theorem RNeeds_ok (c : Can) (h : okC c) (s : Nat) (hs : s < c.ships.length) : VCall cfg 34 [canV c, vi s] [] [] (vi (ch c (c.ships.getD s (-1)) : Nat)) [] := by
  rw [canNeed hs]
  have hsh := h.ship _ (List.getElem_mem hs)
  have h10 := h.n10
  have h7 := h.s7
  generalize hp0 : c.ships[s] = p0 at *
  unfold canV
  (refine VCall.mk (fn := a34) rfl rfl rfl ?_; simp only [a34, inV, mkB, nmsL, PT.set])
  (repeat (first | refine VC.seq ?_ | refine VC.block ?_ | refine VC.kill ?_ | refine VC.skip ?_ | refine VC.exit ?_ | refine VC.regA ?_ | refine VC.condT ?_ | refine VC.condF ?_))
  simp only [hp0]
  refine VC.loopG (fun (q : Nat × Int) => ⟨inV [p2, p5, p6] [.op 0 p2 0, vi (q.1 : Nat), vi q.2] .lf, mkB [(p2, .cells [sl1 c.up, sl1 c.cost, sl1 c.ships])] .lf, [], none⟩) (fun n q => n = (q.2 + 1).toNat ∧ -1 ≤ q.2 ∧ q.2 < c.up.length ∧ q.1 < 1024 ∧ q.1 ||| ch c q.2 = ch c p0) (x := (0, p0)) ?_ ⟨rfl, by simp only; omega, hsh.2, by simp, by simp⟩ ?_
  · exact gW
  rintro n' ⟨acc, p⟩ ⟨hn', hp0', hp1, hacc, hor⟩
  simp only at hn' hp0' hp1 hacc hor
  simp only [inV, PT.set, mkB]
  (repeat (first | refine VC.seq ?_ | refine VC.block ?_ | refine VC.kill ?_ | refine VC.skip ?_ | refine VC.exit ?_ | refine VC.regA ?_ | refine VC.condT ?_ | refine VC.condF ?_))
  refine VC.condA ?_ ?_ <;> intro h2 <;> (simp only [decide_eq_true_eq, decide_eq_false_iff_not, bne_iff_ne, ne_eq, bne_eq_false_iff_eq, beq_iff_eq, beq_eq_false_iff_ne, Bool.not_eq_true', Bool.not_eq_false', Bool.and_eq_true, Bool.or_eq_true, Int.natCast_inj] at h2)
  · obtain ⟨q, rfl⟩ := Int.eq_ofNat_of_zero_le h2
    have hq : q < c.up.length := by omega
    have hu := up_get h hq
    rw [List.getD_eq_getElem?_getD, List.getElem?_eq_getElem hq, Option.getD_some] at hu
    have hstep := ch_step h hq
    have hsh1 := shl_one (n := q) (by omega)
    have hp10 : 2 ^ q < 1024 := Nat.pow_lt_pow_right (n := 10) (by decide) (by omega)
    have hor1 := or_i64 (a := acc) (b := 2 ^ q) (by omega) (by omega)
    (repeat (first | refine VC.seq ?_ | refine VC.block ?_ | refine VC.kill ?_ | refine VC.skip ?_ | refine VC.exit ?_ | refine VC.regA ?_ | refine VC.condT ?_ | refine VC.condF ?_))
    ((try (apply VC.regU; · (exact vF (And.intro @hsh1 @hor1)))); (repeat (first | refine VC.seq ?_ | refine VC.block ?_ | refine VC.kill ?_ | refine VC.skip ?_ | refine VC.exit ?_ | refine VC.regA ?_ | refine VC.condT ?_ | refine VC.condF ?_)))
    refine ⟨_, (acc ||| 2 ^ q, c.up[q]), ?_, ⟨rfl, by simp only; omega, by simp only; omega, or_lt (m := 10) hacc hp10, ?_⟩, ?_⟩
    · simp only; omega
    · simp only
      rw [← hor, hstep, Nat.or_assoc]
    · (apply Go.Ab.V.G.weak; constructor <;> simp (config := {decide := true}) only [PT.Le, inV, mkB, PT.set, VSt.kill, VSt.adopt, VSt.alloc, PT.filt, PT.map, List.map_cons, List.map_nil, noref, norefB, deadB, deadV, nos, nm, nmL, nmB, nmE, Pa.eqb, cond_true, cond_false, Bool.not_true, Bool.not_false, Bool.and_true, Bool.true_and, nmL_vi, flV_len, flP_len, flV_nm, flV_ok, flV_pv, flP_map, drop_flP, drop_flV, putC_flV, eqV2, eqV3, bneT, bneF, decide_true, decide_false, frzL_vi, frzL_flV, nmE_ag, nmE_at, frzE_ag, frzE_at, ofAg_len, ofAt_len, atL_vi, nmL_map_p, frzL_map_p, okL_p, toPVs_p, repsZ, nmL_reps, putC_vi, get_flV0, get_flV1, Int.toNat_zero, Int.toNat_one, Int.reduceToNat, eqV_slice, eqV_ptr, eqV_func, nilS, nilP, nilF, nmL_append, true_or, or_true, and_self, true_and, and_true, Option.some.injEq, reduceCtorEq, false_or, or_false, VV.p.injEq, PV.at.injEq, Value.int.injEq, sl1, vi, bl1, vb, nilV, sl1])
      · rw [shl_w (by omega), hor1]
  · have h2 : p = -1 := by omega
    subst h2
    rw [ch_neg (by omega), Nat.or_zero] at hor
    subst hor
    (repeat (first | refine VC.seq ?_ | refine VC.block ?_ | refine VC.kill ?_ | refine VC.skip ?_ | refine VC.exit ?_ | refine VC.regA ?_ | refine VC.condT ?_ | refine VC.condF ?_))
    exact VC.ret (Fin.A rfl)
end Go.Ab.Dues

namespace Go.Ab.Dues
open Go.Ab.V
set_option maxRecDepth 100000
theorem sumL_snoc (l : List Int) (x : Int) : sumL (l ++ [x]) = sumL l + x := by unfold sumL; rw [List.foldl_append]; rfl
theorem pieces_lt2 {c : Can} (h : okC c) (k S : Nat) : pieces (needK c k) S < 2 ^ c.cost.length := by
  apply Nat.lt_pow_two_of_testBit
  intro i hi
  cases hb : (pieces (needK c k) S).testBit i with
  | false => rfl
  | true =>
    obtain ⟨s, _, hs⟩ := pieces_bit.1 hb
    have := needK_bit h hs
    have := h.cl
    omega
end Go.Ab.Dues

namespace Go.Ab.Dues
/-! ### Set functions: plain sums over ranges -/
def sq (f : Nat → Int) (q : Nat → Bool) : Nat → Int
  | 0 => 0
  | n + 1 => sq f q n + bif q n then f n else 0
theorem sq_mono {f : Nat → Int} (hf : ∀ i, 0 ≤ f i) {q q' : Nat → Bool} (h : ∀ i, q i = true → q' i = true) : ∀ n, sq f q n ≤ sq f q' n
  | 0 => Int.le_refl _
  | n + 1 => by
    have := sq_mono hf h n
    have h1 := hf n
    have h2 := h n
    simp only [sq]
    clear h
    generalize q n = a at *; generalize q' n = b at *
    cases a <;> cases b <;> simp at h2 <;> simp only [cond_true, cond_false, Bool.and_true, Bool.and_false, Bool.not_true, Bool.not_false] <;> omega
theorem sq_congr {f : Nat → Int} {q q' : Nat → Bool} (h : ∀ i, q i = q' i) (n : Nat) : sq f q n = sq f q' n := by
  rw [show q = q' from funext h]
/-- The pieces that a set needs. -/
def unB (nb : Nat → Nat → Bool) (q : Nat → Bool) (n i : Nat) : Bool := (List.range n).any fun s => q s && nb s i
theorem un_mono (nb : Nat → Nat → Bool) {q q' : Nat → Bool} (h : ∀ i, q i = true → q' i = true) (n i : Nat) (hu : unB nb q n i = true) : unB nb q' n i = true := by
  unfold unB at *
  obtain ⟨s, hs, e⟩ := List.any_eq_true.1 hu
  rw [Bool.and_eq_true] at e
  exact List.any_eq_true.2 ⟨s, hs, by rw [Bool.and_eq_true]; exact ⟨h s e.1, e.2⟩⟩
theorem cost_mono {f : Nat → Int} (hf : ∀ i, 0 ≤ f i) (nb : Nat → Nat → Bool) {q q' : Nat → Bool} (h : ∀ i, q i = true → q' i = true) (n m : Nat) : sq f (unB nb q n) m ≤ sq f (unB nb q' n) m :=
  sq_mono hf (fun i hu => un_mono nb h n i hu) m
end Go.Ab.Dues

namespace Go.Ab.Dues
open Go.Ab.V
set_option maxRecDepth 100000
end Go.Ab.Dues

namespace Go.Ab.Dues
open Go.Ab.V
set_option maxRecDepth 100000
end Go.Ab.Dues

namespace Go.Ab.Dues
open Go.Ab.V
set_option maxRecDepth 100000
def tn (c : Can) : Nat := max 1 (min c.up.length 10)
def upT (c : Can) (i : Nat) : List Int := (List.range i).map fun (k : Nat) => if k = 0 then -1 else c.up.getD k 0 % 18446744073709551616 % k
def costT (c : Can) (i : Nat) : List Int := (List.range i).map fun k => if k < c.cost.length then c.cost.getD k 0 % 18446744073709551616 % 1001 else 1
def shipT (c : Can) (i : Nat) : List Int := (c.ships.take i).map fun x => x % 18446744073709551616 % (tn c : Nat)
def tameC (c : Can) (m : Nat) : Can := ⟨upT c (tn c), costT c (tn c), shipT c m⟩
theorem upT_len (c : Can) (i : Nat) : (upT c i).length = i := by simp [upT]
theorem costT_len (c : Can) (i : Nat) : (costT c i).length = i := by simp [costT]
theorem upT_succ (c : Can) (i : Nat) : upT c (i + 1) = upT c i ++ [if i = 0 then -1 else c.up.getD i 0 % 18446744073709551616 % i] := by simp [upT, List.range_succ]
theorem costT_succ (c : Can) (i : Nat) : costT c (i + 1) = costT c i ++ [if i < c.cost.length then c.cost.getD i 0 % 18446744073709551616 % 1001 else 1] := by simp [costT, List.range_succ]
theorem shipT_succ (c : Can) (i : Nat) (h : i < c.ships.length) : shipT c (i + 1) = shipT c i ++ [c.ships[i] % 18446744073709551616 % (tn c : Nat)] := by
  unfold shipT; rw [List.take_add_one, List.getElem?_eq_getElem h, List.map_append]; rfl
theorem shipT_len (c : Can) (i : Nat) : (shipT c i).length = min i c.ships.length := by simp [shipT]
theorem tame_okC (c : Can) (m : Nat) (hm : m ≤ 7) : okC (tameC c m) := by
  have hn : 1 ≤ tn c ∧ tn c ≤ 10 := by unfold tn; omega
  refine ⟨?_, ?_, ?_, ?_, ?_, ?_, ?_, ?_⟩
  · simp only [tameC, upT_len]; omega
  · simp only [tameC, upT_len]; omega
  · simp only [tameC, upT_len, costT_len]
  · simp only [tameC, shipT_len]; omega
  · intro h; simp [tameC, upT]
  · intro i h hi
    simp only [tameC, upT, List.getElem_map, List.getElem_range, if_neg (show ¬i = 0 by omega)]
    exact ⟨Int.emod_nonneg _ (by omega), Int.emod_lt_of_pos _ (by omega)⟩
  · intro i h
    simp only [tameC, costT, List.getElem_map, List.getElem_range]
    split <;> omega
  · intro x hx
    simp only [tameC, shipT, List.mem_map] at hx
    obtain ⟨y, _, rfl⟩ := hx
    simp only [tameC, upT_len]
    exact ⟨Int.emod_nonneg _ (by omega), Int.emod_lt_of_pos _ (by omega)⟩
set_option maxHeartbeats 8000000 in
theorem tame_ok (c : Can) (m : Nat) (hm : m ≤ 7) (h1 : c.up.length ≤ 9223372036854775807) (h2 : c.cost.length ≤ 9223372036854775807) (h3 : c.ships.length ≤ 9223372036854775807) : VCall cfg 15 [canV c, vi m] [] [] (canV (tameC c m)) [] := by
  have hn : 1 ≤ tn c ∧ tn c ≤ 10 := by unfold tn; omega
  have hnc : max 1 (min (c.up.length : Int) 10) = (tn c : Int) := by unfold tn; omega
  have hnup : ∀ i, i < tn c → 0 < i → i < c.up.length := fun i h0 h1 => by unfold tn at h0; omega
  have hul := upT_len c
  have hcl := costT_len c
  have hus := upT_succ c
  have hcs := costT_succ c
  unfold canV tameC
  generalize hNN : tn c = N at *
  (refine VCall.mk (fn := a15) rfl rfl rfl ?_; simp only [a15, inV, mkB, nmsL, PT.set])
  (repeat (first | refine VC.seq ?_ | refine VC.block ?_ | refine VC.kill ?_ | refine VC.skip ?_ | refine VC.exit ?_ | refine VC.regA ?_ | refine VC.condT ?_ | refine VC.condF ?_))
  simp only [hnc]
  refine VC.ghost (G.adoptBA (p := p5) 0 1 p56 G.refl) ?_
  (simp only [List.nil_append, List.append_nil, VSt.kill, VSt.osob, VSt.adoptB, VSt.adopt, VSt.alloc, PT.filt, norefB, deadB, deadV, PT.map, Option.map_some, Option.map_none, List.map_cons, List.map_nil, noref, nos, nm, nmL, nmB, nmE, Pa.eqb, PT.set, mkB, inV, cond_true, cond_false, Bool.and_true, Bool.not_false, Bool.not_true, List.set_cons_zero, List.set_cons_succ])
  refine VC.ghost (G.adoptBA (p := p5) 1 1 p61 G.refl) ?_
  (simp only [List.nil_append, List.append_nil, VSt.kill, VSt.osob, VSt.adoptB, VSt.adopt, VSt.alloc, PT.filt, norefB, deadB, deadV, PT.map, Option.map_some, Option.map_none, List.map_cons, List.map_nil, noref, nos, nm, nmL, nmB, nmE, Pa.eqb, PT.set, mkB, inV, cond_true, cond_false, Bool.and_true, Bool.not_false, Bool.not_true, List.set_cons_zero, List.set_cons_succ])
  refine VC.ghost (G.adoptBA (p := p5) 2 1 p89 G.refl) ?_
  (simp only [List.nil_append, List.append_nil, VSt.kill, VSt.osob, VSt.adoptB, VSt.adopt, VSt.alloc, PT.filt, norefB, deadB, deadV, PT.map, Option.map_some, Option.map_none, List.map_cons, List.map_nil, noref, nos, nm, nmL, nmB, nmE, Pa.eqb, PT.set, mkB, inV, cond_true, cond_false, Bool.and_true, Bool.not_false, Bool.not_true, List.set_cons_zero, List.set_cons_succ])
  refine VC.loopG (fun (i : Nat) => ⟨inV [p1, p2, p4, p5, p6, p7] [vi m, .op 0 p2 0, .op 0 p4 0, .op 0 p5 0, vi N, vi i] .lf, mkB [(p2, .cells [sl1 c.up, sl1 c.cost, sl1 c.ships]), (p4, .cells [nilV, nilV, nilV]), (p5, .cells [.os 1 p56 i, .os 1 p61 i, .os 1 p89 0]), (p56, .cells ((upT c i).map vi)), (p61, .cells ((costT c i).map vi)), (p89, .cells [])] .lf, [], none⟩) (fun n i => n = N - i ∧ i ≤ N) (x := 0) ?_ ⟨rfl, Nat.zero_le _⟩ ?_
  · have e1 : upT c 0 = [] := rfl
    have e2 : costT c 0 = [] := rfl
    exact gF (And.intro @e1 @e2)
  rintro n i ⟨hn', hi⟩
  simp only [inV, PT.set, mkB]
  have hui := hus i
  have hci := hcs i
  have hul1 := hul i
  have hcl1 := hcl i
  have hfin : i = N → upT c i = upT c N ∧ costT c i = costT c N := fun e => by rw [e]; exact ⟨rfl, rfl⟩
  generalize hU : upT c i = U at *
  generalize hC : costT c i = T at *
  (repeat (first | refine VC.seq ?_ | refine VC.block ?_ | refine VC.kill ?_ | refine VC.skip ?_ | refine VC.exit ?_ | refine VC.regA ?_ | refine VC.condT ?_ | refine VC.condF ?_))
  refine VC.condA ?_ ?_ <;> intro h' <;> (simp only [decide_eq_true_eq, decide_eq_false_iff_not, bne_iff_ne, ne_eq, bne_eq_false_iff_eq, beq_iff_eq, beq_eq_false_iff_ne, Bool.not_eq_true', Bool.not_eq_false', Bool.and_eq_true, Bool.or_eq_true, Int.natCast_inj] at h')
  · have h' : i < N := by omega
    have key : ∀ (u k : Int), u = (if i = 0 then -1 else c.up.getD i 0 % 18446744073709551616 % i) → k = (if i < c.cost.length then c.cost.getD i 0 % 18446744073709551616 % 1001 else 1) → upT c (i + 1) = U ++ [u] ∧ costT c (i + 1) = T ++ [k] := fun u k e1 e2 => by rw [hui, hci, e1, e2]; exact ⟨rfl, rfl⟩
    by_cases hi0 : i = 0
    · subst hi0
      by_cases hcc : 0 < c.cost.length
      · have hgd : c.cost.getD 0 0 = c.cost[0] := by rw [List.getD_eq_getElem?_getD, List.getElem?_eq_getElem hcc]; rfl
        obtain ⟨k1, k2⟩ := key (-1) (c.cost[0] % 18446744073709551616 % 1001) (by simp) (by rw [if_pos hcc, hgd])
        (repeat (first | refine VC.seq ?_ | refine VC.block ?_ | refine VC.kill ?_ | refine VC.skip ?_ | refine VC.exit ?_ | refine VC.regA ?_ | refine VC.condT ?_ | refine VC.condF ?_))
        refine ⟨_, 1, ?_, ⟨rfl, by omega⟩, ?_⟩
        · omega
        · (apply Go.Ab.V.G.weak; constructor <;> simp (config := {decide := true}) only [PT.Le, inV, mkB, PT.set, VSt.kill, VSt.adopt, VSt.alloc, PT.filt, PT.map, List.map_cons, List.map_nil, noref, norefB, deadB, deadV, nos, nm, nmL, nmB, nmE, Pa.eqb, cond_true, cond_false, Bool.not_true, Bool.not_false, Bool.and_true, Bool.true_and, nmL_vi, flV_len, flP_len, flV_nm, flV_ok, flV_pv, flP_map, drop_flP, drop_flV, putC_flV, eqV2, eqV3, bneT, bneF, decide_true, decide_false, frzL_vi, frzL_flV, nmE_ag, nmE_at, frzE_ag, frzE_at, ofAg_len, ofAt_len, atL_vi, nmL_map_p, frzL_map_p, okL_p, toPVs_p, repsZ, nmL_reps, putC_vi, get_flV0, get_flV1, Int.toNat_zero, Int.toNat_one, Int.reduceToNat, eqV_slice, eqV_ptr, eqV_func, nilS, nilP, nilF, nmL_append, true_or, or_true, and_self, true_and, and_true, Option.some.injEq, reduceCtorEq, false_or, or_false, VV.p.injEq, PV.at.injEq, Value.int.injEq, sl1, vi, bl1, vb, nilV, sl1, k1, k2, List.map_append])
          (all_goals first | rfl | omega | exact ⟨rfl, by omega⟩)
      · obtain ⟨k1, k2⟩ := key (-1) 1 (by simp) (by rw [if_neg hcc])
        (repeat (first | refine VC.seq ?_ | refine VC.block ?_ | refine VC.kill ?_ | refine VC.skip ?_ | refine VC.exit ?_ | refine VC.regA ?_ | refine VC.condT ?_ | refine VC.condF ?_))
        refine ⟨_, 1, ?_, ⟨rfl, by omega⟩, ?_⟩
        · omega
        · (apply Go.Ab.V.G.weak; constructor <;> simp (config := {decide := true}) only [PT.Le, inV, mkB, PT.set, VSt.kill, VSt.adopt, VSt.alloc, PT.filt, PT.map, List.map_cons, List.map_nil, noref, norefB, deadB, deadV, nos, nm, nmL, nmB, nmE, Pa.eqb, cond_true, cond_false, Bool.not_true, Bool.not_false, Bool.and_true, Bool.true_and, nmL_vi, flV_len, flP_len, flV_nm, flV_ok, flV_pv, flP_map, drop_flP, drop_flV, putC_flV, eqV2, eqV3, bneT, bneF, decide_true, decide_false, frzL_vi, frzL_flV, nmE_ag, nmE_at, frzE_ag, frzE_at, ofAg_len, ofAt_len, atL_vi, nmL_map_p, frzL_map_p, okL_p, toPVs_p, repsZ, nmL_reps, putC_vi, get_flV0, get_flV1, Int.toNat_zero, Int.toNat_one, Int.reduceToNat, eqV_slice, eqV_ptr, eqV_func, nilS, nilP, nilF, nmL_append, true_or, or_true, and_self, true_and, and_true, Option.some.injEq, reduceCtorEq, false_or, or_false, VV.p.injEq, PV.at.injEq, Value.int.injEq, sl1, vi, bl1, vb, nilV, sl1, k1, k2, List.map_append])
          (all_goals first | rfl | omega | exact ⟨rfl, by omega⟩)
    · have hup := hnup i h' (by omega)
      have hgu : c.up.getD i 0 = c.up[i] := by rw [List.getD_eq_getElem?_getD, List.getElem?_eq_getElem hup]; rfl
      have hb0 : 0 ≤ c.up[i] % 18446744073709551616 % (i : Int) := Int.emod_nonneg _ (by omega)
      have hb1 : c.up[i] % 18446744073709551616 % (i : Int) < i := Int.emod_lt_of_pos _ (by omega)
      have hi64 : (i : Int) % 18446744073709551616 = i := by omega
      have hb2 : 0 ≤ c.up[i] % 18446744073709551616 % ((i : Int) % 18446744073709551616) ∧ c.up[i] % 18446744073709551616 % ((i : Int) % 18446744073709551616) < i := by rw [hi64]; exact ⟨hb0, hb1⟩
      by_cases hcc : i < c.cost.length
      · have hgd : c.cost.getD i 0 = c.cost[i] := by rw [List.getD_eq_getElem?_getD, List.getElem?_eq_getElem hcc]; rfl
        obtain ⟨k1, k2⟩ := key (c.up[i] % 18446744073709551616 % i) (c.cost[i] % 18446744073709551616 % 1001) (by rw [if_neg hi0, hgu]) (by rw [if_pos hcc, hgd])
        (repeat (first | refine VC.seq ?_ | refine VC.block ?_ | refine VC.kill ?_ | refine VC.skip ?_ | refine VC.exit ?_ | refine VC.regA ?_ | refine VC.condT ?_ | refine VC.condF ?_))
        simp only [hi64]
        refine ⟨_, i + 1, ?_, ⟨rfl, by omega⟩, ?_⟩
        · omega
        · (apply Go.Ab.V.G.weak; constructor <;> simp (config := {decide := true}) only [PT.Le, inV, mkB, PT.set, VSt.kill, VSt.adopt, VSt.alloc, PT.filt, PT.map, List.map_cons, List.map_nil, noref, norefB, deadB, deadV, nos, nm, nmL, nmB, nmE, Pa.eqb, cond_true, cond_false, Bool.not_true, Bool.not_false, Bool.and_true, Bool.true_and, nmL_vi, flV_len, flP_len, flV_nm, flV_ok, flV_pv, flP_map, drop_flP, drop_flV, putC_flV, eqV2, eqV3, bneT, bneF, decide_true, decide_false, frzL_vi, frzL_flV, nmE_ag, nmE_at, frzE_ag, frzE_at, ofAg_len, ofAt_len, atL_vi, nmL_map_p, frzL_map_p, okL_p, toPVs_p, repsZ, nmL_reps, putC_vi, get_flV0, get_flV1, Int.toNat_zero, Int.toNat_one, Int.reduceToNat, eqV_slice, eqV_ptr, eqV_func, nilS, nilP, nilF, nmL_append, true_or, or_true, and_self, true_and, and_true, Option.some.injEq, reduceCtorEq, false_or, or_false, VV.p.injEq, PV.at.injEq, Value.int.injEq, sl1, vi, bl1, vb, nilV, sl1, k1, k2, List.map_append])
          (all_goals first | rfl | omega | exact ⟨rfl, by omega⟩)
      · obtain ⟨k1, k2⟩ := key (c.up[i] % 18446744073709551616 % i) 1 (by rw [if_neg hi0, hgu]) (by rw [if_neg hcc])
        (repeat (first | refine VC.seq ?_ | refine VC.block ?_ | refine VC.kill ?_ | refine VC.skip ?_ | refine VC.exit ?_ | refine VC.regA ?_ | refine VC.condT ?_ | refine VC.condF ?_))
        simp only [hi64]
        refine ⟨_, i + 1, ?_, ⟨rfl, by omega⟩, ?_⟩
        · omega
        · (apply Go.Ab.V.G.weak; constructor <;> simp (config := {decide := true}) only [PT.Le, inV, mkB, PT.set, VSt.kill, VSt.adopt, VSt.alloc, PT.filt, PT.map, List.map_cons, List.map_nil, noref, norefB, deadB, deadV, nos, nm, nmL, nmB, nmE, Pa.eqb, cond_true, cond_false, Bool.not_true, Bool.not_false, Bool.and_true, Bool.true_and, nmL_vi, flV_len, flP_len, flV_nm, flV_ok, flV_pv, flP_map, drop_flP, drop_flV, putC_flV, eqV2, eqV3, bneT, bneF, decide_true, decide_false, frzL_vi, frzL_flV, nmE_ag, nmE_at, frzE_ag, frzE_at, ofAg_len, ofAt_len, atL_vi, nmL_map_p, frzL_map_p, okL_p, toPVs_p, repsZ, nmL_reps, putC_vi, get_flV0, get_flV1, Int.toNat_zero, Int.toNat_one, Int.reduceToNat, eqV_slice, eqV_ptr, eqV_func, nilS, nilP, nilF, nmL_append, true_or, or_true, and_self, true_and, and_true, Option.some.injEq, reduceCtorEq, false_or, or_false, VV.p.injEq, PV.at.injEq, Value.int.injEq, sl1, vi, bl1, vb, nilV, sl1, k1, k2, List.map_append])
          (all_goals first | rfl | omega | exact ⟨rfl, by omega⟩)
  · obtain ⟨f1, f2⟩ := hfin (by omega)
    have hiN : i = N := by omega
    subst hiN
    rw [← f1, ← f2]
    have hsl := fun k => shipT_len c k
    clear hui hci hus hcs hfin f1 f2
    (repeat (first | refine VC.seq ?_ | refine VC.block ?_ | refine VC.kill ?_ | refine VC.skip ?_ | refine VC.exit ?_ | refine VC.regA ?_ | refine VC.condT ?_ | refine VC.condF ?_))
    refine VC.loopG (fun (k : Nat) => ⟨inV [p1, p2, p4, p5, p6, p12] [vi m, .op 0 p2 0, .op 0 p4 0, .op 0 p5 0, vi i, vi k] .lf, mkB [(p2, .cells [sl1 c.up, sl1 c.cost, sl1 c.ships]), (p4, .cells [nilV, nilV, nilV]), (p5, .cells [.os 1 p56 i, .os 1 p61 i, .os 1 p89 k]), (p56, .cells (U.map vi)), (p61, .cells (T.map vi)), (p89, .cells ((shipT c k).map vi))] .lf, [], none⟩) (fun n k => n = c.ships.length - k ∧ k ≤ c.ships.length ∧ k ≤ m) (x := 0) ?_ ⟨rfl, Nat.zero_le _, Nat.zero_le _⟩ ?_
    · have e1 : shipT c 0 = [] := rfl
      exact gF @e1
    rintro n2 k ⟨hn2, hk, hkm⟩
    simp only [inV, PT.set, mkB]
    have hlk := hsl k
    rw [Nat.min_eq_left hk] at hlk
    have hss := shipT_succ c k
    have hfin2 : (k = m ∨ k = c.ships.length) → shipT c m = shipT c k := fun e => by
      unfold shipT
      rcases e with rfl | rfl
      · rfl
      · rw [List.take_of_length_le (by omega), List.take_of_length_le (by omega)]
    rw [hNN] at hss
    have hi64 : (i : Int) % 18446744073709551616 = i := by omega
    generalize hP : shipT c k = P at *
    by_cases hk1 : k < c.ships.length
    · by_cases hk2 : k < m
      · have hss := hss hk1
        have hb0 : 0 ≤ c.ships[k] % 18446744073709551616 % (i : Int) := Int.emod_nonneg _ (by omega)
        have hb1 : c.ships[k] % 18446744073709551616 % (i : Int) < i := Int.emod_lt_of_pos _ (by omega)
        have hb2 : 0 ≤ c.ships[k] % 18446744073709551616 % ((i : Int) % 18446744073709551616) ∧ c.ships[k] % 18446744073709551616 % ((i : Int) % 18446744073709551616) < i := by rw [hi64]; exact ⟨hb0, hb1⟩
        clear hfin2
        (repeat (first | refine VC.seq ?_ | refine VC.block ?_ | refine VC.kill ?_ | refine VC.skip ?_ | refine VC.exit ?_ | refine VC.regA ?_ | refine VC.condT ?_ | refine VC.condF ?_))
        simp only [hi64]
        refine ⟨_, k + 1, ?_, ⟨rfl, by omega, by omega⟩, ?_⟩
        · omega
        · (apply Go.Ab.V.G.weak; constructor <;> simp (config := {decide := true}) only [PT.Le, inV, mkB, PT.set, VSt.kill, VSt.adopt, VSt.alloc, PT.filt, PT.map, List.map_cons, List.map_nil, noref, norefB, deadB, deadV, nos, nm, nmL, nmB, nmE, Pa.eqb, cond_true, cond_false, Bool.not_true, Bool.not_false, Bool.and_true, Bool.true_and, nmL_vi, flV_len, flP_len, flV_nm, flV_ok, flV_pv, flP_map, drop_flP, drop_flV, putC_flV, eqV2, eqV3, bneT, bneF, decide_true, decide_false, frzL_vi, frzL_flV, nmE_ag, nmE_at, frzE_ag, frzE_at, ofAg_len, ofAt_len, atL_vi, nmL_map_p, frzL_map_p, okL_p, toPVs_p, repsZ, nmL_reps, putC_vi, get_flV0, get_flV1, Int.toNat_zero, Int.toNat_one, Int.reduceToNat, eqV_slice, eqV_ptr, eqV_func, nilS, nilP, nilF, nmL_append, true_or, or_true, and_self, true_and, and_true, Option.some.injEq, reduceCtorEq, false_or, or_false, VV.p.injEq, PV.at.injEq, Value.int.injEq, sl1, vi, bl1, vb, nilV, sl1, hss, List.map_append])
          (all_goals first | rfl | omega | exact ⟨rfl, by omega⟩)
      · have hf := hfin2 (.inl (by omega))
        rw [hf]
        clear hfin2 hss
        (repeat (first | refine VC.seq ?_ | refine VC.block ?_ | refine VC.kill ?_ | refine VC.skip ?_ | refine VC.exit ?_ | refine VC.regA ?_ | refine VC.condT ?_ | refine VC.condF ?_))
        refine VC.ret (Fin.frzA (cs := P.map pi) p89 (hb := rfl) (hc := toPVs_vi _) (Fin.frzA (cs := T.map pi) p61 (hb := rfl) (hc := by rw [frzL_vi]; exact toPVs_vi T) (Fin.frzA (cs := U.map pi) p56 (hb := rfl) (hc := by rw [frzL_vi, frzL_vi]; exact toPVs_vi U) (Fin.A ?_))))
        simp only [sl1, hul1, hcl1, hlk]; rfl
    · have hf := hfin2 (.inr (by omega))
      rw [hf]
      clear hfin2 hss
      (repeat (first | refine VC.seq ?_ | refine VC.block ?_ | refine VC.kill ?_ | refine VC.skip ?_ | refine VC.exit ?_ | refine VC.regA ?_ | refine VC.condT ?_ | refine VC.condF ?_))
      refine VC.ret (Fin.frzA (cs := P.map pi) p89 (hb := rfl) (hc := toPVs_vi _) (Fin.frzA (cs := T.map pi) p61 (hb := rfl) (hc := by rw [frzL_vi]; exact toPVs_vi T) (Fin.frzA (cs := U.map pi) p56 (hb := rfl) (hc := by rw [frzL_vi, frzL_vi]; exact toPVs_vi U) (Fin.A ?_))))
      simp only [sl1, hul1, hcl1, hlk]; rfl
end Go.Ab.Dues

namespace Go.Ab.Dues
open Go.Ab.V
set_option maxRecDepth 100000
end Go.Ab.Dues

namespace Go.Ab.Dues
open Go.Ab.V
set_option maxRecDepth 100000
theorem sum_sq (f : Nat → Int) (q : Nat → Bool) : ∀ n, sumL (((List.range n).filter q).map f) = sq f q n
  | 0 => rfl
  | n + 1 => by
    have ih := sum_sq f q n
    rw [List.range_succ, List.filter_append, List.map_append]
    simp only [sq]
    cases hq : q n
    · rw [show List.filter q [n] = [] from by simp [hq], List.map_nil, List.append_nil, ih, cond_false]; omega
    · rw [show List.filter q [n] = [n] from by simp [hq], List.map_cons, List.map_nil, sumL_snoc, ih, cond_true]
def nbC (c : Can) (s i : Nat) : Bool := ((needK c c.ships.length).getD s 0).testBit i
def ftC (c : Can) (p : Nat) : Int := c.cost.getD p 0
theorem pieces_un (c : Can) (S i : Nat) : (pieces (needK c c.ships.length) S).testBit i = unB (nbC c) (fun s => S.testBit s) 10 i := by
  rw [Bool.eq_iff_iff, pieces_bit]
  unfold unB
  rw [List.any_eq_true]
  constructor
  · rintro ⟨s, hs, e⟩
    obtain ⟨h1, h2⟩ := bitsN_mem.1 hs
    exact ⟨s, List.mem_range.2 h1, by rw [Bool.and_eq_true]; exact ⟨h2, e⟩⟩
  · rintro ⟨s, hs, e⟩
    rw [Bool.and_eq_true] at e
    exact ⟨s, bitsN_mem.2 ⟨List.mem_range.1 hs, e.1⟩, e.2⟩
theorem costS_sq (c : Can) (S : Nat) : costS c S = sq (ftC c) (unB (nbC c) (fun s => S.testBit s) 10) 10 := by
  unfold costS costP bitsN
  rw [sum_sq (fun p => c.cost.getD p 0)]
  exact sq_congr (fun i => pieces_un c S i) 10
theorem ft_pos {c : Can} (h : okC c) (i : Nat) : 0 ≤ ftC c i := (cost_getD h i).1
end Go.Ab.Dues

namespace Go.Ab.Dues
open Go.Ab.V
set_option maxRecDepth 100000
/-! ### Orders -/
def natI (l : List Nat) : List Int := l.map fun n : Nat => (n : Int)
theorem natI_len (l : List Nat) : (natI l).length = l.length := by simp [natI]
theorem natI_get (l : List Nat) (i : Nat) (h : i < (natI l).length) : (natI l)[i] = ((l[i]'(by simpa [natI] using h) : Nat) : Int) := by simp [natI]
/-! ### Shares by an order -/
end Go.Ab.Dues

namespace Go.Ab.Dues
open Go.Ab.V
set_option maxRecDepth 100000
theorem pieces_snoc (nd : List Nat) (b s : Nat) (hs : s < 10) : pieces nd (b ||| 2 ^ s) = pieces nd b ||| nd.getD s 0 := by
  apply Nat.eq_of_testBit_eq
  intro i
  rw [Bool.eq_iff_iff, Nat.testBit_or, Bool.or_eq_true, pieces_bit, pieces_bit]
  constructor
  · rintro ⟨t, ht, hb⟩
    obtain ⟨h1, h2⟩ := bitsN_mem.1 ht
    rw [Nat.testBit_or, Bool.or_eq_true, Nat.testBit_two_pow, decide_eq_true_eq] at h2
    rcases h2 with h2 | h2
    · exact .inl ⟨t, bitsN_mem.2 ⟨h1, h2⟩, hb⟩
    · subst h2; exact .inr hb
  · rintro (⟨t, ht, hb⟩ | hb)
    · obtain ⟨h1, h2⟩ := bitsN_mem.1 ht
      exact ⟨t, bitsN_mem.2 ⟨h1, by rw [Nat.testBit_or, h2]; rfl⟩, hb⟩
    · exact ⟨s, bitsN_mem.2 ⟨hs, by rw [Nat.testBit_or, Nat.testBit_two_pow]; simp⟩, hb⟩
theorem pieces_zero (nd : List Nat) : pieces nd 0 = 0 := by
  have : bitsN 0 = [] := by decide
  simp [pieces, this]
end Go.Ab.Dues

namespace Go.Ab.Dues
open Go.Ab.V
set_option maxRecDepth 100000
end Go.Ab.Dues

namespace Go.Ab.Dues
open Go.Ab.V
set_option maxRecDepth 100000
theorem needK_lt2 {c : Can} (h : okC c) (s : Nat) : (needK c c.ships.length).getD s 0 < 2 ^ c.cost.length := by
  by_cases hs : s < 10
  · have := pieces_lt2 h c.ships.length (2 ^ s)
    have e := pieces_snoc (needK c c.ships.length) 0 s hs
    rw [Nat.zero_or, pieces_zero, Nat.zero_or] at e
    rw [e] at this; exact this
  · rw [List.getD_eq_getElem?_getD, List.getElem?_eq_none (by rw [needK_len]; omega)]
    exact Nat.pow_pos (by decide)
end Go.Ab.Dues

namespace Go.Ab.Dues
open Go.Ab.V
set_option maxRecDepth 100000
/-! ### Least, Greatest, Without -/
end Go.Ab.Dues
