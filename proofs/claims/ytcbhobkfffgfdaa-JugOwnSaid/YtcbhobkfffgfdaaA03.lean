/- A part of the proof of a law: an evaluator of the code, proved sound against the model, and contracts of functions over it. No condition. -/
import Derived.Test.YtcbhobkfffgfdaaProg
import Derived.Test.YtcbhobkfffgfdaaA02
set_option linter.unusedSimpArgs false
set_option linter.unusedVariables false
namespace Go.Ab.Jug
noncomputable section
set_option maxRecDepth 100000
@[reducible] def p0 : Pa := .z
@[reducible] def p1 : Pa := (.l .z)
@[reducible] def p2 : Pa := (.r .z)
@[reducible] def p3 : Pa := (.l (.l .z))
@[reducible] def p4 : Pa := (.r (.l .z))
@[reducible] def p5 : Pa := (.l (.r .z))
@[reducible] def p6 : Pa := (.r (.r .z))
@[reducible] def p7 : Pa := (.l (.l (.l .z)))
@[reducible] def p8 : Pa := (.r (.l (.l .z)))
@[reducible] def p9 : Pa := (.l (.r (.l .z)))
@[reducible] def p10 : Pa := (.r (.r (.l .z)))
@[reducible] def p11 : Pa := (.l (.l (.r .z)))
@[reducible] def p12 : Pa := (.r (.l (.r .z)))
@[reducible] def p13 : Pa := (.l (.r (.r .z)))
@[reducible] def p14 : Pa := (.r (.r (.r .z)))
@[reducible] def p15 : Pa := (.l (.l (.l (.l .z))))
@[reducible] def p16 : Pa := (.r (.l (.l (.l .z))))
@[reducible] def p17 : Pa := (.l (.r (.l (.l .z))))
@[reducible] def p18 : Pa := (.r (.r (.l (.l .z))))
@[reducible] def p19 : Pa := (.l (.l (.r (.l .z))))
@[reducible] def p20 : Pa := (.r (.l (.r (.l .z))))
@[reducible] def p21 : Pa := (.l (.r (.r (.l .z))))
@[reducible] def p22 : Pa := (.r (.r (.r (.l .z))))
@[reducible] def p23 : Pa := (.l (.l (.l (.r .z))))
@[reducible] def p24 : Pa := (.r (.l (.l (.r .z))))
@[reducible] def p25 : Pa := (.l (.r (.l (.r .z))))
@[reducible] def p26 : Pa := (.r (.r (.l (.r .z))))
@[reducible] def p27 : Pa := (.l (.l (.r (.r .z))))
@[reducible] def p28 : Pa := (.r (.l (.r (.r .z))))
@[reducible] def p29 : Pa := (.l (.r (.r (.r .z))))
@[reducible] def p30 : Pa := (.r (.r (.r (.r .z))))
@[reducible] def p31 : Pa := (.l (.l (.l (.l (.l .z)))))
@[reducible] def p32 : Pa := (.r (.l (.l (.l (.l .z)))))
@[reducible] def p33 : Pa := (.l (.r (.l (.l (.l .z)))))
@[reducible] def p34 : Pa := (.r (.r (.l (.l (.l .z)))))
@[reducible] def p35 : Pa := (.l (.l (.r (.l (.l .z)))))
@[reducible] def p36 : Pa := (.r (.l (.r (.l (.l .z)))))
@[reducible] def p37 : Pa := (.l (.r (.r (.l (.l .z)))))
@[reducible] def p38 : Pa := (.r (.r (.r (.l (.l .z)))))
@[reducible] def p39 : Pa := (.l (.l (.l (.r (.l .z)))))
@[reducible] def p40 : Pa := (.r (.l (.l (.r (.l .z)))))
@[reducible] def p41 : Pa := (.l (.r (.l (.r (.l .z)))))
@[reducible] def p42 : Pa := (.r (.r (.l (.r (.l .z)))))
@[reducible] def p43 : Pa := (.l (.l (.r (.r (.l .z)))))
@[reducible] def p44 : Pa := (.r (.l (.r (.r (.l .z)))))
@[reducible] def p45 : Pa := (.l (.r (.r (.r (.l .z)))))
@[reducible] def p46 : Pa := (.r (.r (.r (.r (.l .z)))))
@[reducible] def p47 : Pa := (.l (.l (.l (.l (.r .z)))))
@[reducible] def p48 : Pa := (.r (.l (.l (.l (.r .z)))))
@[reducible] def p49 : Pa := (.l (.r (.l (.l (.r .z)))))
@[reducible] def p50 : Pa := (.r (.r (.l (.l (.r .z)))))
@[reducible] def p51 : Pa := (.l (.l (.r (.l (.r .z)))))
@[reducible] def p52 : Pa := (.r (.l (.r (.l (.r .z)))))
@[reducible] def p53 : Pa := (.l (.r (.r (.l (.r .z)))))
@[reducible] def p54 : Pa := (.r (.r (.r (.l (.r .z)))))
@[reducible] def p55 : Pa := (.l (.l (.l (.r (.r .z)))))
@[reducible] def p56 : Pa := (.r (.l (.l (.r (.r .z)))))
@[reducible] def p57 : Pa := (.l (.r (.l (.r (.r .z)))))
@[reducible] def p58 : Pa := (.r (.r (.l (.r (.r .z)))))
@[reducible] def p59 : Pa := (.l (.l (.r (.r (.r .z)))))
@[reducible] def p60 : Pa := (.r (.l (.r (.r (.r .z)))))
@[reducible] def p61 : Pa := (.l (.r (.r (.r (.r .z)))))
@[reducible] def p62 : Pa := (.r (.r (.r (.r (.r .z)))))
@[reducible] def p63 : Pa := (.l (.l (.l (.l (.l (.l .z))))))
@[reducible] def p64 : Pa := (.r (.l (.l (.l (.l (.l .z))))))
@[reducible] def p65 : Pa := (.l (.r (.l (.l (.l (.l .z))))))
@[reducible] def p66 : Pa := (.r (.r (.l (.l (.l (.l .z))))))
@[reducible] def p67 : Pa := (.l (.l (.r (.l (.l (.l .z))))))
@[reducible] def p68 : Pa := (.r (.l (.r (.l (.l (.l .z))))))
@[reducible] def p69 : Pa := (.l (.r (.r (.l (.l (.l .z))))))
@[reducible] def p70 : Pa := (.r (.r (.r (.l (.l (.l .z))))))
@[reducible] def p71 : Pa := (.l (.l (.l (.r (.l (.l .z))))))
@[reducible] def p72 : Pa := (.r (.l (.l (.r (.l (.l .z))))))
@[reducible] def p73 : Pa := (.l (.r (.l (.r (.l (.l .z))))))
@[reducible] def p74 : Pa := (.r (.r (.l (.r (.l (.l .z))))))
@[reducible] def p75 : Pa := (.l (.l (.r (.r (.l (.l .z))))))
@[reducible] def p76 : Pa := (.r (.l (.r (.r (.l (.l .z))))))
@[reducible] def p77 : Pa := (.l (.r (.r (.r (.l (.l .z))))))
@[reducible] def p78 : Pa := (.r (.r (.r (.r (.l (.l .z))))))
@[reducible] def p79 : Pa := (.l (.l (.l (.l (.r (.l .z))))))
@[reducible] def p80 : Pa := (.r (.l (.l (.l (.r (.l .z))))))
@[reducible] def p81 : Pa := (.l (.r (.l (.l (.r (.l .z))))))
@[reducible] def p82 : Pa := (.r (.r (.l (.l (.r (.l .z))))))
@[reducible] def p83 : Pa := (.l (.l (.r (.l (.r (.l .z))))))
@[reducible] def p84 : Pa := (.r (.l (.r (.l (.r (.l .z))))))
@[reducible] def p85 : Pa := (.l (.r (.r (.l (.r (.l .z))))))
@[reducible] def p86 : Pa := (.r (.r (.r (.l (.r (.l .z))))))
@[reducible] def p87 : Pa := (.l (.l (.l (.r (.r (.l .z))))))
@[reducible] def p88 : Pa := (.r (.l (.l (.r (.r (.l .z))))))
@[reducible] def p89 : Pa := (.l (.r (.l (.r (.r (.l .z))))))
@[reducible] def p90 : Pa := (.r (.r (.l (.r (.r (.l .z))))))
@[reducible] def p91 : Pa := (.l (.l (.r (.r (.r (.l .z))))))
@[reducible] def p92 : Pa := (.r (.l (.r (.r (.r (.l .z))))))
@[reducible] def p93 : Pa := (.l (.r (.r (.r (.r (.l .z))))))
@[reducible] def p94 : Pa := (.r (.r (.r (.r (.r (.l .z))))))
@[reducible] def p95 : Pa := (.l (.l (.l (.l (.l (.r .z))))))
@[reducible] def p96 : Pa := (.r (.l (.l (.l (.l (.r .z))))))
@[reducible] def p97 : Pa := (.l (.r (.l (.l (.l (.r .z))))))
@[reducible] def p98 : Pa := (.r (.r (.l (.l (.l (.r .z))))))
@[reducible] def p99 : Pa := (.l (.l (.r (.l (.l (.r .z))))))
@[reducible] def p100 : Pa := (.r (.l (.r (.l (.l (.r .z))))))
@[reducible] def p101 : Pa := (.l (.r (.r (.l (.l (.r .z))))))
@[reducible] def p102 : Pa := (.r (.r (.r (.l (.l (.r .z))))))
@[reducible] def p103 : Pa := (.l (.l (.l (.r (.l (.r .z))))))
@[reducible] def p104 : Pa := (.r (.l (.l (.r (.l (.r .z))))))
@[reducible] def p105 : Pa := (.l (.r (.l (.r (.l (.r .z))))))
@[reducible] def p106 : Pa := (.r (.r (.l (.r (.l (.r .z))))))
@[reducible] def p107 : Pa := (.l (.l (.r (.r (.l (.r .z))))))
@[reducible] def p108 : Pa := (.r (.l (.r (.r (.l (.r .z))))))
@[reducible] def p109 : Pa := (.l (.r (.r (.r (.l (.r .z))))))
@[reducible] def p110 : Pa := (.r (.r (.r (.r (.l (.r .z))))))
@[reducible] def p111 : Pa := (.l (.l (.l (.l (.r (.r .z))))))
@[reducible] def p112 : Pa := (.r (.l (.l (.l (.r (.r .z))))))
@[reducible] def p113 : Pa := (.l (.r (.l (.l (.r (.r .z))))))
@[reducible] def p114 : Pa := (.r (.r (.l (.l (.r (.r .z))))))
@[reducible] def p115 : Pa := (.l (.l (.r (.l (.r (.r .z))))))
@[reducible] def p116 : Pa := (.r (.l (.r (.l (.r (.r .z))))))
@[reducible] def p117 : Pa := (.l (.r (.r (.l (.r (.r .z))))))
@[reducible] def p118 : Pa := (.r (.r (.r (.l (.r (.r .z))))))
@[reducible] def p119 : Pa := (.l (.l (.l (.r (.r (.r .z))))))
@[reducible] def p120 : Pa := (.r (.l (.l (.r (.r (.r .z))))))
@[reducible] def p121 : Pa := (.l (.r (.l (.r (.r (.r .z))))))
@[reducible] def p122 : Pa := (.r (.r (.l (.r (.r (.r .z))))))
@[reducible] def p123 : Pa := (.l (.l (.r (.r (.r (.r .z))))))
@[reducible] def p124 : Pa := (.r (.l (.r (.r (.r (.r .z))))))
@[reducible] def p125 : Pa := (.l (.r (.r (.r (.r (.r .z))))))
@[reducible] def p126 : Pa := (.r (.r (.r (.r (.r (.r .z))))))
@[reducible] def p127 : Pa := (.l (.l (.l (.l (.l (.l (.l .z)))))))
@[reducible] def p128 : Pa := (.r (.l (.l (.l (.l (.l (.l .z)))))))
@[reducible] def p129 : Pa := (.l (.r (.l (.l (.l (.l (.l .z)))))))
@[reducible] def p130 : Pa := (.r (.r (.l (.l (.l (.l (.l .z)))))))
@[reducible] def p131 : Pa := (.l (.l (.r (.l (.l (.l (.l .z)))))))
def i6 : ST := (.nd undef (.nd undef (.nd undef .lf .lf) (.nd undef .lf .lf)) (.nd undef (.nd undef .lf .lf) .lf))
def i7 : ST := (.nd undef (.nd undef (.nd undef .lf .lf) (.nd undef .lf .lf)) (.nd undef (.nd undef .lf .lf) (.nd undef .lf .lf)))
def i8 : ST := (.nd undef (.nd undef (.nd undef (.nd undef .lf .lf) .lf) (.nd undef .lf .lf)) (.nd undef (.nd undef .lf .lf) (.nd undef .lf .lf)))
def i9 : ST := (.nd undef (.nd undef (.nd undef (.nd undef .lf .lf) .lf) (.nd undef .lf .lf)) (.nd undef (.nd undef (.nd undef .lf .lf) .lf) (.nd undef .lf .lf)))
def i12 : ST := (.nd undef (.nd undef (.nd undef (.nd undef .lf .lf) (.nd undef .lf .lf)) (.nd undef (.nd undef .lf .lf) .lf)) (.nd undef (.nd undef (.nd undef .lf .lf) .lf) (.nd undef (.nd undef .lf .lf) .lf)))
def i14 : ST := (.nd undef (.nd undef (.nd undef (.nd undef .lf .lf) (.nd undef .lf .lf)) (.nd undef (.nd undef .lf .lf) (.nd undef .lf .lf))) (.nd undef (.nd undef (.nd undef .lf .lf) (.nd undef .lf .lf)) (.nd undef (.nd undef .lf .lf) .lf)))
def i17 : ST := (.nd undef (.nd undef (.nd undef (.nd undef (.nd undef .lf .lf) .lf) (.nd undef .lf .lf)) (.nd undef (.nd undef .lf .lf) (.nd undef .lf .lf))) (.nd undef (.nd undef (.nd undef (.nd undef .lf .lf) .lf) (.nd undef .lf .lf)) (.nd undef (.nd undef .lf .lf) (.nd undef .lf .lf))))
def i19 : ST := (.nd undef (.nd undef (.nd undef (.nd undef (.nd undef .lf .lf) .lf) (.nd undef .lf .lf)) (.nd undef (.nd undef (.nd undef .lf .lf) .lf) (.nd undef .lf .lf))) (.nd undef (.nd undef (.nd undef (.nd undef .lf .lf) .lf) (.nd undef .lf .lf)) (.nd undef (.nd undef (.nd undef .lf .lf) .lf) (.nd undef .lf .lf))))
def i20 : ST := (.nd undef (.nd undef (.nd undef (.nd undef (.nd undef .lf .lf) .lf) (.nd undef (.nd undef .lf .lf) .lf)) (.nd undef (.nd undef (.nd undef .lf .lf) .lf) (.nd undef .lf .lf))) (.nd undef (.nd undef (.nd undef (.nd undef .lf .lf) .lf) (.nd undef .lf .lf)) (.nd undef (.nd undef (.nd undef .lf .lf) .lf) (.nd undef .lf .lf))))
def i21 : ST := (.nd undef (.nd undef (.nd undef (.nd undef (.nd undef .lf .lf) .lf) (.nd undef (.nd undef .lf .lf) .lf)) (.nd undef (.nd undef (.nd undef .lf .lf) .lf) (.nd undef .lf .lf))) (.nd undef (.nd undef (.nd undef (.nd undef .lf .lf) .lf) (.nd undef (.nd undef .lf .lf) .lf)) (.nd undef (.nd undef (.nd undef .lf .lf) .lf) (.nd undef .lf .lf))))
def i25 : ST := (.nd undef (.nd undef (.nd undef (.nd undef (.nd undef .lf .lf) (.nd undef .lf .lf)) (.nd undef (.nd undef .lf .lf) .lf)) (.nd undef (.nd undef (.nd undef .lf .lf) .lf) (.nd undef (.nd undef .lf .lf) .lf))) (.nd undef (.nd undef (.nd undef (.nd undef .lf .lf) (.nd undef .lf .lf)) (.nd undef (.nd undef .lf .lf) .lf)) (.nd undef (.nd undef (.nd undef .lf .lf) .lf) (.nd undef (.nd undef .lf .lf) .lf))))
def i26 : ST := (.nd undef (.nd undef (.nd undef (.nd undef (.nd undef .lf .lf) (.nd undef .lf .lf)) (.nd undef (.nd undef .lf .lf) .lf)) (.nd undef (.nd undef (.nd undef .lf .lf) (.nd undef .lf .lf)) (.nd undef (.nd undef .lf .lf) .lf))) (.nd undef (.nd undef (.nd undef (.nd undef .lf .lf) (.nd undef .lf .lf)) (.nd undef (.nd undef .lf .lf) .lf)) (.nd undef (.nd undef (.nd undef .lf .lf) .lf) (.nd undef (.nd undef .lf .lf) .lf))))
def i28 : ST := (.nd undef (.nd undef (.nd undef (.nd undef (.nd undef .lf .lf) (.nd undef .lf .lf)) (.nd undef (.nd undef .lf .lf) (.nd undef .lf .lf))) (.nd undef (.nd undef (.nd undef .lf .lf) (.nd undef .lf .lf)) (.nd undef (.nd undef .lf .lf) .lf))) (.nd undef (.nd undef (.nd undef (.nd undef .lf .lf) (.nd undef .lf .lf)) (.nd undef (.nd undef .lf .lf) .lf)) (.nd undef (.nd undef (.nd undef .lf .lf) (.nd undef .lf .lf)) (.nd undef (.nd undef .lf .lf) .lf))))
def i29 : ST := (.nd undef (.nd undef (.nd undef (.nd undef (.nd undef .lf .lf) (.nd undef .lf .lf)) (.nd undef (.nd undef .lf .lf) (.nd undef .lf .lf))) (.nd undef (.nd undef (.nd undef .lf .lf) (.nd undef .lf .lf)) (.nd undef (.nd undef .lf .lf) .lf))) (.nd undef (.nd undef (.nd undef (.nd undef .lf .lf) (.nd undef .lf .lf)) (.nd undef (.nd undef .lf .lf) (.nd undef .lf .lf))) (.nd undef (.nd undef (.nd undef .lf .lf) (.nd undef .lf .lf)) (.nd undef (.nd undef .lf .lf) .lf))))
def i34 : ST := (.nd undef (.nd undef (.nd undef (.nd undef (.nd undef (.nd undef .lf .lf) .lf) (.nd undef .lf .lf)) (.nd undef (.nd undef .lf .lf) (.nd undef .lf .lf))) (.nd undef (.nd undef (.nd undef (.nd undef .lf .lf) .lf) (.nd undef .lf .lf)) (.nd undef (.nd undef .lf .lf) (.nd undef .lf .lf)))) (.nd undef (.nd undef (.nd undef (.nd undef (.nd undef .lf .lf) .lf) (.nd undef .lf .lf)) (.nd undef (.nd undef .lf .lf) (.nd undef .lf .lf))) (.nd undef (.nd undef (.nd undef .lf .lf) (.nd undef .lf .lf)) (.nd undef (.nd undef .lf .lf) (.nd undef .lf .lf)))))
def i36 : ST := (.nd undef (.nd undef (.nd undef (.nd undef (.nd undef (.nd undef .lf .lf) .lf) (.nd undef .lf .lf)) (.nd undef (.nd undef (.nd undef .lf .lf) .lf) (.nd undef .lf .lf))) (.nd undef (.nd undef (.nd undef (.nd undef .lf .lf) .lf) (.nd undef .lf .lf)) (.nd undef (.nd undef .lf .lf) (.nd undef .lf .lf)))) (.nd undef (.nd undef (.nd undef (.nd undef (.nd undef .lf .lf) .lf) (.nd undef .lf .lf)) (.nd undef (.nd undef .lf .lf) (.nd undef .lf .lf))) (.nd undef (.nd undef (.nd undef (.nd undef .lf .lf) .lf) (.nd undef .lf .lf)) (.nd undef (.nd undef .lf .lf) (.nd undef .lf .lf)))))
def i38 : ST := (.nd undef (.nd undef (.nd undef (.nd undef (.nd undef (.nd undef .lf .lf) .lf) (.nd undef .lf .lf)) (.nd undef (.nd undef (.nd undef .lf .lf) .lf) (.nd undef .lf .lf))) (.nd undef (.nd undef (.nd undef (.nd undef .lf .lf) .lf) (.nd undef .lf .lf)) (.nd undef (.nd undef (.nd undef .lf .lf) .lf) (.nd undef .lf .lf)))) (.nd undef (.nd undef (.nd undef (.nd undef (.nd undef .lf .lf) .lf) (.nd undef .lf .lf)) (.nd undef (.nd undef (.nd undef .lf .lf) .lf) (.nd undef .lf .lf))) (.nd undef (.nd undef (.nd undef (.nd undef .lf .lf) .lf) (.nd undef .lf .lf)) (.nd undef (.nd undef .lf .lf) (.nd undef .lf .lf)))))
def i39 : ST := (.nd undef (.nd undef (.nd undef (.nd undef (.nd undef (.nd undef .lf .lf) .lf) (.nd undef .lf .lf)) (.nd undef (.nd undef (.nd undef .lf .lf) .lf) (.nd undef .lf .lf))) (.nd undef (.nd undef (.nd undef (.nd undef .lf .lf) .lf) (.nd undef .lf .lf)) (.nd undef (.nd undef (.nd undef .lf .lf) .lf) (.nd undef .lf .lf)))) (.nd undef (.nd undef (.nd undef (.nd undef (.nd undef .lf .lf) .lf) (.nd undef .lf .lf)) (.nd undef (.nd undef (.nd undef .lf .lf) .lf) (.nd undef .lf .lf))) (.nd undef (.nd undef (.nd undef (.nd undef .lf .lf) .lf) (.nd undef .lf .lf)) (.nd undef (.nd undef (.nd undef .lf .lf) .lf) (.nd undef .lf .lf)))))
def i40 : ST := (.nd undef (.nd undef (.nd undef (.nd undef (.nd undef (.nd undef .lf .lf) .lf) (.nd undef (.nd undef .lf .lf) .lf)) (.nd undef (.nd undef (.nd undef .lf .lf) .lf) (.nd undef .lf .lf))) (.nd undef (.nd undef (.nd undef (.nd undef .lf .lf) .lf) (.nd undef .lf .lf)) (.nd undef (.nd undef (.nd undef .lf .lf) .lf) (.nd undef .lf .lf)))) (.nd undef (.nd undef (.nd undef (.nd undef (.nd undef .lf .lf) .lf) (.nd undef .lf .lf)) (.nd undef (.nd undef (.nd undef .lf .lf) .lf) (.nd undef .lf .lf))) (.nd undef (.nd undef (.nd undef (.nd undef .lf .lf) .lf) (.nd undef .lf .lf)) (.nd undef (.nd undef (.nd undef .lf .lf) .lf) (.nd undef .lf .lf)))))
def i41 : ST := (.nd undef (.nd undef (.nd undef (.nd undef (.nd undef (.nd undef .lf .lf) .lf) (.nd undef (.nd undef .lf .lf) .lf)) (.nd undef (.nd undef (.nd undef .lf .lf) .lf) (.nd undef .lf .lf))) (.nd undef (.nd undef (.nd undef (.nd undef .lf .lf) .lf) (.nd undef .lf .lf)) (.nd undef (.nd undef (.nd undef .lf .lf) .lf) (.nd undef .lf .lf)))) (.nd undef (.nd undef (.nd undef (.nd undef (.nd undef .lf .lf) .lf) (.nd undef (.nd undef .lf .lf) .lf)) (.nd undef (.nd undef (.nd undef .lf .lf) .lf) (.nd undef .lf .lf))) (.nd undef (.nd undef (.nd undef (.nd undef .lf .lf) .lf) (.nd undef .lf .lf)) (.nd undef (.nd undef (.nd undef .lf .lf) .lf) (.nd undef .lf .lf)))))
def i44 : ST := (.nd undef (.nd undef (.nd undef (.nd undef (.nd undef (.nd undef .lf .lf) .lf) (.nd undef (.nd undef .lf .lf) .lf)) (.nd undef (.nd undef (.nd undef .lf .lf) .lf) (.nd undef (.nd undef .lf .lf) .lf))) (.nd undef (.nd undef (.nd undef (.nd undef .lf .lf) .lf) (.nd undef (.nd undef .lf .lf) .lf)) (.nd undef (.nd undef (.nd undef .lf .lf) .lf) (.nd undef .lf .lf)))) (.nd undef (.nd undef (.nd undef (.nd undef (.nd undef .lf .lf) .lf) (.nd undef (.nd undef .lf .lf) .lf)) (.nd undef (.nd undef (.nd undef .lf .lf) .lf) (.nd undef .lf .lf))) (.nd undef (.nd undef (.nd undef (.nd undef .lf .lf) .lf) (.nd undef (.nd undef .lf .lf) .lf)) (.nd undef (.nd undef (.nd undef .lf .lf) .lf) (.nd undef .lf .lf)))))
def i45 : ST := (.nd undef (.nd undef (.nd undef (.nd undef (.nd undef (.nd undef .lf .lf) .lf) (.nd undef (.nd undef .lf .lf) .lf)) (.nd undef (.nd undef (.nd undef .lf .lf) .lf) (.nd undef (.nd undef .lf .lf) .lf))) (.nd undef (.nd undef (.nd undef (.nd undef .lf .lf) .lf) (.nd undef (.nd undef .lf .lf) .lf)) (.nd undef (.nd undef (.nd undef .lf .lf) .lf) (.nd undef .lf .lf)))) (.nd undef (.nd undef (.nd undef (.nd undef (.nd undef .lf .lf) .lf) (.nd undef (.nd undef .lf .lf) .lf)) (.nd undef (.nd undef (.nd undef .lf .lf) .lf) (.nd undef (.nd undef .lf .lf) .lf))) (.nd undef (.nd undef (.nd undef (.nd undef .lf .lf) .lf) (.nd undef (.nd undef .lf .lf) .lf)) (.nd undef (.nd undef (.nd undef .lf .lf) .lf) (.nd undef .lf .lf)))))
def i60 : ST := (.nd undef (.nd undef (.nd undef (.nd undef (.nd undef (.nd undef .lf .lf) (.nd undef .lf .lf)) (.nd undef (.nd undef .lf .lf) (.nd undef .lf .lf))) (.nd undef (.nd undef (.nd undef .lf .lf) (.nd undef .lf .lf)) (.nd undef (.nd undef .lf .lf) (.nd undef .lf .lf)))) (.nd undef (.nd undef (.nd undef (.nd undef .lf .lf) (.nd undef .lf .lf)) (.nd undef (.nd undef .lf .lf) (.nd undef .lf .lf))) (.nd undef (.nd undef (.nd undef .lf .lf) (.nd undef .lf .lf)) (.nd undef (.nd undef .lf .lf) .lf)))) (.nd undef (.nd undef (.nd undef (.nd undef (.nd undef .lf .lf) (.nd undef .lf .lf)) (.nd undef (.nd undef .lf .lf) (.nd undef .lf .lf))) (.nd undef (.nd undef (.nd undef .lf .lf) (.nd undef .lf .lf)) (.nd undef (.nd undef .lf .lf) .lf))) (.nd undef (.nd undef (.nd undef (.nd undef .lf .lf) (.nd undef .lf .lf)) (.nd undef (.nd undef .lf .lf) (.nd undef .lf .lf))) (.nd undef (.nd undef (.nd undef .lf .lf) (.nd undef .lf .lf)) (.nd undef (.nd undef .lf .lf) .lf)))))
def i61 : ST := (.nd undef (.nd undef (.nd undef (.nd undef (.nd undef (.nd undef .lf .lf) (.nd undef .lf .lf)) (.nd undef (.nd undef .lf .lf) (.nd undef .lf .lf))) (.nd undef (.nd undef (.nd undef .lf .lf) (.nd undef .lf .lf)) (.nd undef (.nd undef .lf .lf) (.nd undef .lf .lf)))) (.nd undef (.nd undef (.nd undef (.nd undef .lf .lf) (.nd undef .lf .lf)) (.nd undef (.nd undef .lf .lf) (.nd undef .lf .lf))) (.nd undef (.nd undef (.nd undef .lf .lf) (.nd undef .lf .lf)) (.nd undef (.nd undef .lf .lf) .lf)))) (.nd undef (.nd undef (.nd undef (.nd undef (.nd undef .lf .lf) (.nd undef .lf .lf)) (.nd undef (.nd undef .lf .lf) (.nd undef .lf .lf))) (.nd undef (.nd undef (.nd undef .lf .lf) (.nd undef .lf .lf)) (.nd undef (.nd undef .lf .lf) (.nd undef .lf .lf)))) (.nd undef (.nd undef (.nd undef (.nd undef .lf .lf) (.nd undef .lf .lf)) (.nd undef (.nd undef .lf .lf) (.nd undef .lf .lf))) (.nd undef (.nd undef (.nd undef .lf .lf) (.nd undef .lf .lf)) (.nd undef (.nd undef .lf .lf) .lf)))))
def i63 : ST := (.nd undef (.nd undef (.nd undef (.nd undef (.nd undef (.nd undef .lf .lf) (.nd undef .lf .lf)) (.nd undef (.nd undef .lf .lf) (.nd undef .lf .lf))) (.nd undef (.nd undef (.nd undef .lf .lf) (.nd undef .lf .lf)) (.nd undef (.nd undef .lf .lf) (.nd undef .lf .lf)))) (.nd undef (.nd undef (.nd undef (.nd undef .lf .lf) (.nd undef .lf .lf)) (.nd undef (.nd undef .lf .lf) (.nd undef .lf .lf))) (.nd undef (.nd undef (.nd undef .lf .lf) (.nd undef .lf .lf)) (.nd undef (.nd undef .lf .lf) (.nd undef .lf .lf))))) (.nd undef (.nd undef (.nd undef (.nd undef (.nd undef .lf .lf) (.nd undef .lf .lf)) (.nd undef (.nd undef .lf .lf) (.nd undef .lf .lf))) (.nd undef (.nd undef (.nd undef .lf .lf) (.nd undef .lf .lf)) (.nd undef (.nd undef .lf .lf) (.nd undef .lf .lf)))) (.nd undef (.nd undef (.nd undef (.nd undef .lf .lf) (.nd undef .lf .lf)) (.nd undef (.nd undef .lf .lf) (.nd undef .lf .lf))) (.nd undef (.nd undef (.nd undef .lf .lf) (.nd undef .lf .lf)) (.nd undef (.nd undef .lf .lf) (.nd undef .lf .lf))))))
def i66 : ST := (.nd undef (.nd undef (.nd undef (.nd undef (.nd undef (.nd undef (.nd undef .lf .lf) .lf) (.nd undef .lf .lf)) (.nd undef (.nd undef .lf .lf) (.nd undef .lf .lf))) (.nd undef (.nd undef (.nd undef .lf .lf) (.nd undef .lf .lf)) (.nd undef (.nd undef .lf .lf) (.nd undef .lf .lf)))) (.nd undef (.nd undef (.nd undef (.nd undef (.nd undef .lf .lf) .lf) (.nd undef .lf .lf)) (.nd undef (.nd undef .lf .lf) (.nd undef .lf .lf))) (.nd undef (.nd undef (.nd undef .lf .lf) (.nd undef .lf .lf)) (.nd undef (.nd undef .lf .lf) (.nd undef .lf .lf))))) (.nd undef (.nd undef (.nd undef (.nd undef (.nd undef (.nd undef .lf .lf) .lf) (.nd undef .lf .lf)) (.nd undef (.nd undef .lf .lf) (.nd undef .lf .lf))) (.nd undef (.nd undef (.nd undef .lf .lf) (.nd undef .lf .lf)) (.nd undef (.nd undef .lf .lf) (.nd undef .lf .lf)))) (.nd undef (.nd undef (.nd undef (.nd undef .lf .lf) (.nd undef .lf .lf)) (.nd undef (.nd undef .lf .lf) (.nd undef .lf .lf))) (.nd undef (.nd undef (.nd undef .lf .lf) (.nd undef .lf .lf)) (.nd undef (.nd undef .lf .lf) (.nd undef .lf .lf))))))
def i123 : ST := (.nd undef (.nd undef (.nd undef (.nd undef (.nd undef (.nd undef (.nd undef .lf .lf) (.nd undef .lf .lf)) (.nd undef (.nd undef .lf .lf) (.nd undef .lf .lf))) (.nd undef (.nd undef (.nd undef .lf .lf) (.nd undef .lf .lf)) (.nd undef (.nd undef .lf .lf) (.nd undef .lf .lf)))) (.nd undef (.nd undef (.nd undef (.nd undef .lf .lf) (.nd undef .lf .lf)) (.nd undef (.nd undef .lf .lf) (.nd undef .lf .lf))) (.nd undef (.nd undef (.nd undef .lf .lf) (.nd undef .lf .lf)) (.nd undef (.nd undef .lf .lf) .lf)))) (.nd undef (.nd undef (.nd undef (.nd undef (.nd undef .lf .lf) (.nd undef .lf .lf)) (.nd undef (.nd undef .lf .lf) (.nd undef .lf .lf))) (.nd undef (.nd undef (.nd undef .lf .lf) (.nd undef .lf .lf)) (.nd undef (.nd undef .lf .lf) (.nd undef .lf .lf)))) (.nd undef (.nd undef (.nd undef (.nd undef .lf .lf) (.nd undef .lf .lf)) (.nd undef (.nd undef .lf .lf) (.nd undef .lf .lf))) (.nd undef (.nd undef (.nd undef .lf .lf) (.nd undef .lf .lf)) (.nd undef (.nd undef .lf .lf) .lf))))) (.nd undef (.nd undef (.nd undef (.nd undef (.nd undef (.nd undef .lf .lf) (.nd undef .lf .lf)) (.nd undef (.nd undef .lf .lf) (.nd undef .lf .lf))) (.nd undef (.nd undef (.nd undef .lf .lf) (.nd undef .lf .lf)) (.nd undef (.nd undef .lf .lf) (.nd undef .lf .lf)))) (.nd undef (.nd undef (.nd undef (.nd undef .lf .lf) (.nd undef .lf .lf)) (.nd undef (.nd undef .lf .lf) (.nd undef .lf .lf))) (.nd undef (.nd undef (.nd undef .lf .lf) (.nd undef .lf .lf)) (.nd undef (.nd undef .lf .lf) .lf)))) (.nd undef (.nd undef (.nd undef (.nd undef (.nd undef .lf .lf) (.nd undef .lf .lf)) (.nd undef (.nd undef .lf .lf) (.nd undef .lf .lf))) (.nd undef (.nd undef (.nd undef .lf .lf) (.nd undef .lf .lf)) (.nd undef (.nd undef .lf .lf) (.nd undef .lf .lf)))) (.nd undef (.nd undef (.nd undef (.nd undef .lf .lf) (.nd undef .lf .lf)) (.nd undef (.nd undef .lf .lf) (.nd undef .lf .lf))) (.nd undef (.nd undef (.nd undef .lf .lf) (.nd undef .lf .lf)) (.nd undef (.nd undef .lf .lf) .lf))))))
def i132 : ST := (.nd undef (.nd undef (.nd undef (.nd undef (.nd undef (.nd undef (.nd undef (.nd undef .lf .lf) .lf) (.nd undef .lf .lf)) (.nd undef (.nd undef .lf .lf) (.nd undef .lf .lf))) (.nd undef (.nd undef (.nd undef .lf .lf) (.nd undef .lf .lf)) (.nd undef (.nd undef .lf .lf) (.nd undef .lf .lf)))) (.nd undef (.nd undef (.nd undef (.nd undef (.nd undef .lf .lf) .lf) (.nd undef .lf .lf)) (.nd undef (.nd undef .lf .lf) (.nd undef .lf .lf))) (.nd undef (.nd undef (.nd undef .lf .lf) (.nd undef .lf .lf)) (.nd undef (.nd undef .lf .lf) (.nd undef .lf .lf))))) (.nd undef (.nd undef (.nd undef (.nd undef (.nd undef (.nd undef .lf .lf) .lf) (.nd undef .lf .lf)) (.nd undef (.nd undef .lf .lf) (.nd undef .lf .lf))) (.nd undef (.nd undef (.nd undef .lf .lf) (.nd undef .lf .lf)) (.nd undef (.nd undef .lf .lf) (.nd undef .lf .lf)))) (.nd undef (.nd undef (.nd undef (.nd undef .lf .lf) (.nd undef .lf .lf)) (.nd undef (.nd undef .lf .lf) (.nd undef .lf .lf))) (.nd undef (.nd undef (.nd undef .lf .lf) (.nd undef .lf .lf)) (.nd undef (.nd undef .lf .lf) (.nd undef .lf .lf)))))) (.nd undef (.nd undef (.nd undef (.nd undef (.nd undef (.nd undef (.nd undef .lf .lf) .lf) (.nd undef .lf .lf)) (.nd undef (.nd undef .lf .lf) (.nd undef .lf .lf))) (.nd undef (.nd undef (.nd undef .lf .lf) (.nd undef .lf .lf)) (.nd undef (.nd undef .lf .lf) (.nd undef .lf .lf)))) (.nd undef (.nd undef (.nd undef (.nd undef .lf .lf) (.nd undef .lf .lf)) (.nd undef (.nd undef .lf .lf) (.nd undef .lf .lf))) (.nd undef (.nd undef (.nd undef .lf .lf) (.nd undef .lf .lf)) (.nd undef (.nd undef .lf .lf) (.nd undef .lf .lf))))) (.nd undef (.nd undef (.nd undef (.nd undef (.nd undef (.nd undef .lf .lf) .lf) (.nd undef .lf .lf)) (.nd undef (.nd undef .lf .lf) (.nd undef .lf .lf))) (.nd undef (.nd undef (.nd undef .lf .lf) (.nd undef .lf .lf)) (.nd undef (.nd undef .lf .lf) (.nd undef .lf .lf)))) (.nd undef (.nd undef (.nd undef (.nd undef .lf .lf) (.nd undef .lf .lf)) (.nd undef (.nd undef .lf .lf) (.nd undef .lf .lf))) (.nd undef (.nd undef (.nd undef .lf .lf) (.nd undef .lf .lf)) (.nd undef (.nd undef .lf .lf) (.nd undef .lf .lf)))))))
def a13 : AFunc := { params := [p0, p1], init := i123, results := [.tmp p4], body := (.seq (.reg [⟨(some p4), none, .mov (.c (.bool false))⟩] []) (.kill [p4] (.seq (.reg [⟨(some p21), none, .mov (.t p0)⟩, ⟨(some p22), none, .call (.c (.func (.func 16) #[] #[])) [(.t p21), (.c (.int .i64 3))]⟩, ⟨(some p5), none, .mov (.t p22)⟩] []) (.kill [p0, p21, p22] (.seq (.reg [⟨(some p23), none, .mov (.t p5)⟩, ⟨(some p24), none, .mov (.t p1)⟩, ⟨(some p25), none, .call (.c (.func (.func 17) #[] #[])) [(.t p23), (.t p24)]⟩, ⟨(some p6), none, .mov (.t p25)⟩] []) (.kill [p1, p23, p24, p25] (.seq (.reg [⟨(some p26), none, .mov (.t p5)⟩, ⟨(some p27), none, .call (.c (.func (.func 41) #[] #[])) [(.t p26), (.c (.int .i64 4))]⟩, ⟨(some p28), none, .mov (.t p6)⟩, ⟨(some p29), none, .call (.c (.func (.func 41) #[] #[])) [(.t p28), (.c (.int .i64 4))]⟩, ⟨(some p7), none, .mov (.t p27)⟩, ⟨(some p8), none, .mov (.t p29)⟩] []) (.kill [p26, p27, p28, p29] (.seq (.reg [⟨(some p31), none, .mov (.t p5)⟩, ⟨(some p32), none, .mov (.t p6)⟩, ⟨(some p33), none, .call (.c (.func (.func 18) #[] #[])) [(.t p31), (.t p32), (.c (.bool false))]⟩, ⟨(some p30), none, .mov (.t p33)⟩, ⟨(some p34), none, .ext 0 (.t p30)⟩, ⟨(some p35), none, .ext 1 (.t p30)⟩, ⟨(some p9), none, .mov (.t p34)⟩, ⟨(some p10), none, .mov (.t p35)⟩] []) (.kill [p30, p31, p32, p33, p34, p35] (.seq (.reg [⟨(some p37), none, .mov (.t p5)⟩, ⟨(some p38), none, .mov (.t p6)⟩, ⟨(some p39), none, .call (.c (.func (.func 40) #[] #[])) [(.t p37), (.t p38), (.c (.slice none 0 0))]⟩, ⟨(some p36), none, .mov (.t p39)⟩, ⟨(some p40), none, .ext 0 (.t p36)⟩, ⟨(some p41), none, .ext 1 (.t p36)⟩, ⟨(some p42), none, .ext 2 (.t p36)⟩, ⟨(some p11), none, .mov (.t p40)⟩, ⟨(some p12), none, .mov (.t p41)⟩, ⟨(some p13), none, .mov (.t p42)⟩] []) (.kill [p36, p37, p38, p39, p40, p41, p42] (.seq (.reg [⟨(some p44), none, .mov (.t p5)⟩, ⟨(some p45), none, .call (.c (.func (.func 30) #[] #[])) [(.t p44)]⟩, ⟨(some p43), none, .mov (.t p45)⟩, ⟨(some p46), none, .ext 0 (.t p43)⟩, ⟨(some p47), none, .ext 1 (.t p43)⟩, ⟨(some p14), none, .mov (.t p46)⟩, ⟨(some p15), none, .mov (.t p47)⟩] []) (.kill [p43, p44, p45, p46, p47] (.seq (.seq (.reg [⟨(some p16), none, .mov (.c (.int .i64 0))⟩] []) (.block 0 (.loop (.seq (.seq (.reg [⟨(some p48), none, .mov (.t p16)⟩, ⟨(some p49), none, .mov (.t p9)⟩, ⟨(some p50), none, .len 1 (.t p49)⟩, ⟨(some p51), none, .bin .lss (.t p48) (.t p50)⟩] []) (.kill [p48, p49, p50] (.cond (.t p51) .skip (.exit 0)))) (.kill [p51] (.seq (.block 1 (.reg [⟨(some p54), none, .mov (.t p9)⟩, ⟨(some p55), none, .mov (.t p16)⟩, ⟨(some p56), none, .build [(.int .i64 0), (.int .i64 0)] [(0, 1, (.c (.int .i64 (-7)))), (1, 1, (.c (.int .i64 (-7))))]⟩, ⟨(some p57), none, .ias 2 (.t p54) (.t p55)⟩, ⟨none, none, .st 2 (.t p57) (.t p56)⟩] [])) (.kill [p54, p55, p56, p57] (.reg [⟨(some p52), none, .mov (.t p16)⟩, ⟨(some p53), none, .bin .add (.t p52) (.c (.int .i64 1))⟩, ⟨(some p16), none, .mov (.t p53)⟩] [])))))))) (.kill [p9, p16, p51] (.seq (.seq (.reg [⟨(some p17), none, .mov (.c (.int .i64 0))⟩] []) (.block 2 (.loop (.seq (.seq (.reg [⟨(some p58), none, .mov (.t p17)⟩, ⟨(some p59), none, .mov (.t p11)⟩, ⟨(some p60), none, .len 1 (.t p59)⟩, ⟨(some p61), none, .bin .lss (.t p58) (.t p60)⟩] []) (.kill [p58, p59, p60] (.cond (.t p61) .skip (.exit 2)))) (.kill [p61] (.seq (.block 3 (.reg [⟨(some p64), none, .mov (.t p11)⟩, ⟨(some p65), none, .mov (.t p17)⟩, ⟨(some p66), none, .ias 1 (.t p64) (.t p65)⟩, ⟨none, none, .st 1 (.t p66) (.c (.int .i64 (-7)))⟩] [])) (.kill [p64, p65, p66] (.reg [⟨(some p62), none, .mov (.t p17)⟩, ⟨(some p63), none, .bin .add (.t p62) (.c (.int .i64 1))⟩, ⟨(some p17), none, .mov (.t p63)⟩] [])))))))) (.kill [p11, p17, p61] (.seq (.seq (.reg [⟨(some p18), none, .mov (.c (.int .i64 0))⟩] []) (.block 4 (.loop (.seq (.seq (.reg [⟨(some p67), none, .mov (.t p18)⟩, ⟨(some p68), none, .mov (.t p14)⟩, ⟨(some p69), none, .len 1 (.t p68)⟩, ⟨(some p70), none, .bin .lss (.t p67) (.t p69)⟩] []) (.kill [p67, p68, p69] (.cond (.t p70) .skip (.exit 4)))) (.kill [p70] (.seq (.block 5 (.reg [⟨(some p73), none, .mov (.t p14)⟩, ⟨(some p74), none, .mov (.t p18)⟩, ⟨(some p75), none, .ias 1 (.t p73) (.t p74)⟩, ⟨none, none, .st 1 (.t p75) (.c (.int .i64 (-7)))⟩] [])) (.kill [p73, p74, p75] (.reg [⟨(some p71), none, .mov (.t p18)⟩, ⟨(some p72), none, .bin .add (.t p71) (.c (.int .i64 1))⟩, ⟨(some p18), none, .mov (.t p72)⟩] [])))))))) (.kill [p14, p18, p70] (.seq (.reg [⟨(some p77), none, .mov (.t p5)⟩, ⟨(some p78), none, .call (.c (.func (.func 30) #[] #[])) [(.t p77)]⟩, ⟨(some p76), none, .mov (.t p78)⟩, ⟨(some p79), none, .ext 0 (.t p76)⟩, ⟨(some p80), none, .ext 1 (.t p76)⟩, ⟨(some p19), none, .mov (.t p79)⟩, ⟨(some p20), none, .mov (.t p80)⟩] []) (.kill [p76, p77, p78, p79, p80] (.seq (.reg [⟨(some p81), none, .mov (.t p10)⟩, ⟨(some p82), none, .bin .eql (.t p81) (.c (.int .i64 0))⟩, ⟨(some p83), none, .mov (.t p82)⟩, ⟨(some p84), (some (p83, true)), .mov (.t p13)⟩, ⟨(some p85), (some (p83, true)), .bin .eql (.t p84) (.c (.int .i64 0))⟩, ⟨(some p86), none, .pick (.t p83) (.t p85) (.c (.bool false))⟩, ⟨(some p87), none, .mov (.t p86)⟩, ⟨(some p88), (some (p87, true)), .mov (.t p12)⟩, ⟨(some p89), (some (p87, true)), .bin .eql (.t p88) (.c (.int .i64 0))⟩, ⟨(some p90), none, .pick (.t p87) (.t p89) (.c (.bool false))⟩, ⟨(some p91), none, .mov (.t p90)⟩, ⟨(some p92), (some (p91, true)), .mov (.t p15)⟩, ⟨(some p93), (some (p91, true)), .bin .eql (.t p92) (.c (.int .i64 0))⟩, ⟨(some p94), none, .pick (.t p91) (.t p93) (.c (.bool false))⟩, ⟨(some p95), none, .mov (.t p94)⟩, ⟨(some p96), (some (p95, true)), .mov (.t p20)⟩, ⟨(some p97), (some (p95, true)), .bin .eql (.t p96) (.c (.int .i64 0))⟩, ⟨(some p98), none, .pick (.t p95) (.t p97) (.c (.bool false))⟩, ⟨(some p99), none, .mov (.t p98)⟩, ⟨(some p100), (some (p99, true)), .mov (.t p5)⟩, ⟨(some p101), (some (p99, true)), .mov (.t p7)⟩, ⟨(some p102), (some (p99, true)), .call (.c (.func (.func 33) #[] #[])) [(.t p100), (.t p101)]⟩, ⟨(some p103), none, .pick (.t p99) (.t p102) (.c (.bool false))⟩, ⟨(some p104), none, .mov (.t p103)⟩, ⟨(some p105), (some (p104, true)), .mov (.t p6)⟩, ⟨(some p106), (some (p104, true)), .mov (.t p8)⟩, ⟨(some p107), (some (p104, true)), .call (.c (.func (.func 33) #[] #[])) [(.t p105), (.t p106)]⟩, ⟨(some p108), none, .pick (.t p104) (.t p107) (.c (.bool false))⟩, ⟨(some p109), none, .mov (.t p108)⟩, ⟨(some p110), (some (p109, true)), .mov (.t p19)⟩, ⟨(some p111), (some (p109, true)), .len 1 (.t p110)⟩, ⟨(some p112), (some (p109, true)), .bin .gtr (.t p111) (.c (.int .i64 0))⟩, ⟨(some p113), none, .pick (.t p109) (.t p112) (.c (.bool false))⟩, ⟨(some p114), none, .mov (.t p113)⟩, ⟨(some p115), (some (p114, true)), .mov (.t p19)⟩, ⟨(some p116), (some (p114, true)), .ias 1 (.t p115) (.c (.int .i64 0))⟩, ⟨(some p117), (some (p114, true)), .ld none (.t p116)⟩, ⟨(some p118), (some (p114, true)), .bin .eql (.t p117) (.c (.int .i64 0))⟩, ⟨(some p119), none, .pick (.t p114) (.t p118) (.c (.bool false))⟩, ⟨(some p120), none, .mov (.t p119)⟩, ⟨(some p121), (some (p120, true)), .call (.c (.func (.func 20) #[] #[])) []⟩, ⟨(some p122), none, .pick (.t p120) (.t p121) (.c (.bool false))⟩, ⟨(some p4), none, .mov (.t p122)⟩] []) .ret))))))))))))))))))))))) }
def a16 : AFunc := { params := [p0, p1], init := i34, results := [.tmp p4], body := (.seq (.reg [⟨(some p4), none, .mov (.c (.slice none 0 0))⟩] []) (.kill [p4] (.seq (.reg [⟨(some p5), none, .mov (.c (.slice none 0 0))⟩] []) (.seq (.seq (.reg [⟨(some p6), none, .mov (.c (.int .i64 0))⟩] []) (.block 0 (.loop (.seq (.seq (.reg [⟨(some p7), none, .mov (.t p6)⟩, ⟨(some p8), none, .mov (.t p0)⟩, ⟨(some p9), none, .len 1 (.t p8)⟩, ⟨(some p10), none, .bin .lss (.t p7) (.t p9)⟩, ⟨(some p11), none, .mov (.t p10)⟩, ⟨(some p12), (some (p11, true)), .mov (.t p6)⟩, ⟨(some p13), (some (p11, true)), .mov (.t p1)⟩, ⟨(some p14), (some (p11, true)), .bin .lss (.t p12) (.t p13)⟩, ⟨(some p15), none, .pick (.t p11) (.t p14) (.c (.bool false))⟩] []) (.kill [p7, p8, p9, p10, p11, p12, p13, p14] (.cond (.t p15) .skip (.exit 0)))) (.kill [p15] (.seq (.block 1 (.reg [⟨(some p18), none, .mov (.t p5)⟩, ⟨(some p19), none, .mov (.t p0)⟩, ⟨(some p20), none, .mov (.t p6)⟩, ⟨(some p21), none, .ias 1 (.t p19) (.t p20)⟩, ⟨(some p22), none, .ld none (.t p21)⟩, ⟨(some p23), none, .cvt .u64 (.t p22)⟩, ⟨(some p24), none, .bin .rem (.t p23) (.c (.int .u64 12))⟩, ⟨(some p25), none, .cvt .i64 (.t p24)⟩, ⟨(some p26), none, .bin .add (.c (.int .i64 1)) (.t p25)⟩, ⟨(some p27), none, .bslice 1 1 [(.int .i64 0)] [(0, 1, (.t p26))]⟩, ⟨(some p28), none, .app 1 (.t p18) (.t p27)⟩, ⟨(some p5), none, .mov (.t p28)⟩] [])) (.kill [p18, p19, p20, p21, p22, p23, p24, p25, p26, p27, p28] (.reg [⟨(some p16), none, .mov (.t p6)⟩, ⟨(some p17), none, .bin .add (.t p16) (.c (.int .i64 1))⟩, ⟨(some p6), none, .mov (.t p17)⟩] [])))))))) (.kill [p0, p1, p6, p15] (.seq (.seq (.reg [⟨(some p29), none, .mov (.t p5)⟩, ⟨(some p30), none, .len 1 (.t p29)⟩, ⟨(some p31), none, .bin .eql (.t p30) (.c (.int .i64 0))⟩] []) (.kill [p29, p30] (.cond (.t p31) (.kill [p31] (.seq (.reg [⟨(some p32), none, .bslice 1 1 [(.int .i64 0)] [(0, 1, (.c (.int .i64 3)))]⟩, ⟨(some p4), none, .mov (.t p32)⟩] []) .ret)) .skip))) (.kill [p31] (.seq (.reg [⟨(some p33), none, .mov (.t p5)⟩, ⟨(some p4), none, .mov (.t p33)⟩] []) .ret)))))))) }
def a17 : AFunc := { params := [p0, p1], init := i36, results := [.tmp p4], body := (.seq (.reg [⟨(some p4), none, .mov (.c (.slice none 0 0))⟩] []) (.kill [p4] (.seq (.reg [⟨(some p5), none, .mov (.c (.slice none 0 0))⟩] []) (.seq (.seq (.reg [⟨(some p6), none, .mov (.c (.int .i64 0))⟩] []) (.block 0 (.loop (.seq (.seq (.reg [⟨(some p8), none, .mov (.t p6)⟩, ⟨(some p9), none, .mov (.t p0)⟩, ⟨(some p10), none, .len 1 (.t p9)⟩, ⟨(some p11), none, .bin .lss (.t p8) (.t p10)⟩] []) (.kill [p8, p9, p10] (.cond (.t p11) .skip (.exit 0)))) (.kill [p11] (.seq (.block 1 (.seq (.reg [⟨(some p7), none, .mov (.c (.int .i64 0))⟩] []) (.seq (.seq (.reg [⟨(some p14), none, .mov (.t p6)⟩, ⟨(some p15), none, .mov (.t p1)⟩, ⟨(some p16), none, .len 1 (.t p15)⟩, ⟨(some p17), none, .bin .lss (.t p14) (.t p16)⟩] []) (.kill [p14, p15, p16] (.cond (.t p17) (.kill [p17] (.reg [⟨(some p18), none, .mov (.t p1)⟩, ⟨(some p19), none, .mov (.t p6)⟩, ⟨(some p20), none, .ias 1 (.t p18) (.t p19)⟩, ⟨(some p21), none, .ld none (.t p20)⟩, ⟨(some p22), none, .cvt .u64 (.t p21)⟩, ⟨(some p23), none, .mov (.t p0)⟩, ⟨(some p24), none, .mov (.t p6)⟩, ⟨(some p25), none, .ias 1 (.t p23) (.t p24)⟩, ⟨(some p26), none, .ld none (.t p25)⟩, ⟨(some p27), none, .bin .add (.t p26) (.c (.int .i64 1))⟩, ⟨(some p28), none, .cvt .u64 (.t p27)⟩, ⟨(some p29), none, .bin .rem (.t p22) (.t p28)⟩, ⟨(some p30), none, .cvt .i64 (.t p29)⟩, ⟨(some p7), none, .mov (.t p30)⟩] [])) .skip))) (.kill [p17, p18, p19, p20, p21, p22, p23, p24, p25, p26, p27, p28, p29, p30] (.reg [⟨(some p31), none, .mov (.t p5)⟩, ⟨(some p32), none, .mov (.t p7)⟩, ⟨(some p33), none, .bslice 1 1 [(.int .i64 0)] [(0, 1, (.t p32))]⟩, ⟨(some p34), none, .app 1 (.t p31) (.t p33)⟩, ⟨(some p5), none, .mov (.t p34)⟩] []))))) (.kill [p7, p31, p32, p33, p34] (.reg [⟨(some p12), none, .mov (.t p6)⟩, ⟨(some p13), none, .bin .add (.t p12) (.c (.int .i64 1))⟩, ⟨(some p6), none, .mov (.t p13)⟩] [])))))))) (.kill [p0, p1, p6, p11] (.seq (.reg [⟨(some p35), none, .mov (.t p5)⟩, ⟨(some p4), none, .mov (.t p35)⟩] []) .ret)))))) }
def a18 : AFunc := { params := [p0, p1, p2], init := i38, results := [.tmp p6, .tmp p7], body := (.seq (.reg [⟨(some p6), none, .mov (.c (.slice none 0 0))⟩, ⟨(some p7), none, .mov (.c (.int .i64 0))⟩] []) (.kill [p6, p7] (.seq (.reg [⟨(some p13), none, .mov (.t p0)⟩, ⟨(some p14), none, .mov (.t p2)⟩, ⟨(some p15), none, .mov (.t p1)⟩, ⟨(some p16), none, .bslice 1 1 [(.slice none 0 0)] [(0, 1, (.t p15))]⟩, ⟨(some p17), none, .call (.c (.func (.func 46) #[] #[])) [(.t p13), (.t p14), (.t p16)]⟩, ⟨(some p12), none, .mov (.t p17)⟩, ⟨(some p18), none, .ext 0 (.t p12)⟩, ⟨(some p19), none, .ext 1 (.t p12)⟩, ⟨(some p8), none, .mov (.t p18)⟩, ⟨(some p9), none, .mov (.t p19)⟩] []) (.kill [p0, p2, p12, p13, p14, p15, p16, p17, p18, p19] (.seq (.seq (.reg [⟨(some p20), none, .mov (.t p9)⟩, ⟨(some p21), none, .bin .neq (.t p20) (.c (.int .i64 0))⟩] []) (.kill [p20] (.cond (.t p21) (.kill [p21] (.seq (.reg [⟨(some p22), none, .mov (.t p9)⟩, ⟨(some p6), none, .mov (.c (.slice none 0 0))⟩, ⟨(some p7), none, .mov (.t p22)⟩] []) .ret)) .skip))) (.kill [p21] (.seq (.reg [⟨(some p10), none, .zero [(.slice none 0 0)]⟩] []) (.seq (.seq (.reg [⟨(some p23), none, .mov (.t p8)⟩, ⟨(some p24), none, .mov (.t p1)⟩, ⟨(some p25), none, .call (.c (.func (.func 48) #[] #[])) [(.t p24)]⟩, ⟨(some p26), none, .call (.c (.func (.func 47) #[] #[])) [(.t p23), (.t p25)]⟩] []) (.kill [p1, p8, p23, p24, p25] (.block 0 (.rangeF (.t p26) [p27, p28] (.reg [⟨(some p11), none, .zero [(.int .i64 0), (.int .i64 0)]⟩, ⟨none, none, .st 2 (.t p11) (.t p27)⟩] []) (.block 1 (.reg [⟨(some p29), none, .ld none (.t p10)⟩, ⟨(some p30), none, .fad 0 (.t p11)⟩, ⟨(some p31), none, .ld none (.t p30)⟩, ⟨(some p32), none, .fad 1 (.t p11)⟩, ⟨(some p33), none, .ld none (.t p32)⟩, ⟨(some p34), none, .build [(.int .i64 0), (.int .i64 0)] [(0, 1, (.t p31)), (1, 1, (.t p33))]⟩, ⟨(some p35), none, .bslice 1 2 [(.int .i64 0), (.int .i64 0)] [(0, 2, (.t p34))]⟩, ⟨(some p36), none, .app 2 (.t p29) (.t p35)⟩, ⟨none, none, .st 1 (.t p10) (.t p36)⟩] [])))))) (.seq (.reg [⟨(some p37), none, .ld none (.t p10)⟩, ⟨(some p6), none, .mov (.t p37)⟩, ⟨(some p7), none, .mov (.c (.int .i64 0))⟩] []) .ret))))))))) }
def a20 : AFunc := { params := [], init := i132, results := [.tmp p0], body := (.seq (.reg [⟨(some p0), none, .mov (.c (.bool false))⟩] []) (.kill [p0] (.seq (.reg [⟨(some p18), none, .bslice 2 1 [(.int .i64 0)] [(0, 1, (.c (.int .i64 3))), (1, 1, (.c (.int .i64 5)))]⟩, ⟨(some p19), none, .call (.c (.func (.func 31) #[] #[])) [(.t p18), (.c (.int .i64 4))]⟩, ⟨(some p17), none, .mov (.t p19)⟩, ⟨(some p20), none, .ext 0 (.t p17)⟩, ⟨(some p21), none, .ext 1 (.t p17)⟩, ⟨(some p22), none, .ext 2 (.t p17)⟩, ⟨(some p1), none, .mov (.t p20)⟩, ⟨(some p2), none, .mov (.t p21)⟩, ⟨(some p3), none, .mov (.t p22)⟩] []) (.kill [p17, p18, p19, p20, p21, p22] (.seq (.reg [⟨(some p24), none, .bslice 3 1 [(.int .i64 0)] [(0, 1, (.c (.int .i64 8))), (1, 1, (.c (.int .i64 5))), (2, 1, (.c (.int .i64 3)))]⟩, ⟨(some p25), none, .bslice 3 1 [(.int .i64 0)] [(0, 1, (.c (.int .i64 8))), (1, 1, (.c (.int .i64 0))), (2, 1, (.c (.int .i64 0)))]⟩, ⟨(some p26), none, .bslice 3 1 [(.int .i64 0)] [(0, 1, (.c (.int .i64 4))), (1, 1, (.c (.int .i64 4))), (2, 1, (.c (.int .i64 0)))]⟩, ⟨(some p27), none, .call (.c (.func (.func 22) #[] #[])) [(.t p24), (.t p25), (.t p26), (.c (.bool true))]⟩, ⟨(some p23), none, .mov (.t p27)⟩, ⟨(some p28), none, .ext 0 (.t p23)⟩, ⟨(some p29), none, .ext 1 (.t p23)⟩, ⟨(some p30), none, .ext 2 (.t p23)⟩, ⟨(some p4), none, .mov (.t p28)⟩, ⟨(some p5), none, .mov (.t p29)⟩, ⟨(some p6), none, .mov (.t p30)⟩] []) (.kill [p23, p24, p25, p26, p27, p28, p29, p30] (.seq (.reg [⟨(some p32), none, .bslice 2 1 [(.int .i64 0)] [(0, 1, (.c (.int .i64 4))), (1, 1, (.c (.int .i64 6)))]⟩, ⟨(some p33), none, .call (.c (.func (.func 30) #[] #[])) [(.t p32)]⟩, ⟨(some p31), none, .mov (.t p33)⟩, ⟨(some p34), none, .ext 0 (.t p31)⟩, ⟨(some p35), none, .ext 1 (.t p31)⟩, ⟨(some p7), none, .mov (.t p34)⟩, ⟨(some p8), none, .mov (.t p35)⟩] []) (.kill [p31, p32, p33, p34, p35] (.seq (.reg [⟨(some p37), none, .call (.c (.func (.func 25) #[] #[])) [(.c (.int .i64 3)), (.c (.int .i64 5)), (.c (.int .i64 4))]⟩, ⟨(some p36), none, .mov (.t p37)⟩, ⟨(some p38), none, .ext 0 (.t p36)⟩, ⟨(some p39), none, .ext 1 (.t p36)⟩, ⟨(some p40), none, .ext 2 (.t p36)⟩, ⟨(some p9), none, .mov (.t p38)⟩, ⟨(some p10), none, .mov (.t p39)⟩, ⟨(some p11), none, .mov (.t p40)⟩] []) (.kill [p36, p37, p38, p39, p40] (.seq (.reg [⟨(some p42), none, .call (.c (.func (.func 26) #[] #[])) [(.c (.int .i64 3)), (.c (.int .i64 5)), (.c (.int .i64 3)), (.c (.bool true))]⟩, ⟨(some p41), none, .mov (.t p42)⟩, ⟨(some p43), none, .ext 0 (.t p41)⟩, ⟨(some p44), none, .ext 1 (.t p41)⟩, ⟨(some p45), none, .ext 2 (.t p41)⟩, ⟨(some p12), none, .mov (.t p43)⟩, ⟨(some p13), none, .mov (.t p44)⟩, ⟨(some p14), none, .mov (.t p45)⟩] []) (.kill [p41, p42, p43, p44, p45] (.seq (.reg [⟨(some p47), none, .bslice 1 1 [(.int .i64 0)] [(0, 1, (.c (.int .i64 2)))]⟩, ⟨(some p48), none, .bslice 1 1 [(.int .i64 0)] [(0, 1, (.c (.int .i64 0)))]⟩, ⟨(some p49), none, .call (.c (.func (.func 18) #[] #[])) [(.t p47), (.t p48), (.c (.bool false))]⟩, ⟨(some p46), none, .mov (.t p49)⟩, ⟨(some p50), none, .ext 0 (.t p46)⟩, ⟨(some p51), none, .ext 1 (.t p46)⟩, ⟨(some p15), none, .mov (.t p50)⟩, ⟨(some p16), none, .mov (.t p51)⟩] []) (.kill [p46, p47, p48, p49, p50, p51] (.seq (.reg [⟨(some p52), none, .mov (.t p3)⟩, ⟨(some p53), none, .bin .eql (.t p52) (.c (.int .i64 0))⟩, ⟨(some p54), none, .mov (.t p53)⟩, ⟨(some p55), (some (p54, true)), .mov (.t p2)⟩, ⟨(some p56), none, .pick (.t p54) (.t p55) (.c (.bool false))⟩, ⟨(some p57), none, .mov (.t p56)⟩, ⟨(some p58), (some (p57, true)), .mov (.t p1)⟩, ⟨(some p59), (some (p57, true)), .bin .eql (.t p58) (.c (.int .i64 6))⟩, ⟨(some p60), none, .pick (.t p57) (.t p59) (.c (.bool false))⟩, ⟨(some p61), none, .mov (.t p60)⟩, ⟨(some p62), (some (p61, true)), .mov (.t p6)⟩, ⟨(some p63), (some (p61, true)), .bin .eql (.t p62) (.c (.int .i64 0))⟩, ⟨(some p64), none, .pick (.t p61) (.t p63) (.c (.bool false))⟩, ⟨(some p65), none, .mov (.t p64)⟩, ⟨(some p66), (some (p65, true)), .mov (.t p5)⟩, ⟨(some p67), none, .pick (.t p65) (.t p66) (.c (.bool false))⟩, ⟨(some p68), none, .mov (.t p67)⟩, ⟨(some p69), (some (p68, true)), .mov (.t p4)⟩, ⟨(some p70), (some (p68, true)), .len 1 (.t p69)⟩, ⟨(some p71), (some (p68, true)), .bin .eql (.t p70) (.c (.int .i64 7))⟩, ⟨(some p72), none, .pick (.t p68) (.t p71) (.c (.bool false))⟩, ⟨(some p73), none, .mov (.t p72)⟩, ⟨(some p74), (some (p73, true)), .mov (.t p8)⟩, ⟨(some p75), (some (p73, true)), .bin .eql (.t p74) (.c (.int .i64 0))⟩, ⟨(some p76), none, .pick (.t p73) (.t p75) (.c (.bool false))⟩, ⟨(some p77), none, .mov (.t p76)⟩, ⟨(some p78), (some (p77, true)), .mov (.t p7)⟩, ⟨(some p79), (some (p77, true)), .bslice 4 1 [(.int .i64 0)] [(0, 1, (.c (.int .i64 0))), (1, 1, (.c (.int .i64 2))), (2, 1, (.c (.int .i64 4))), (3, 1, (.c (.int .i64 6)))]⟩, ⟨(some p80), (some (p77, true)), .call (.c (.func (.func 33) #[] #[])) [(.t p78), (.t p79)]⟩, ⟨(some p81), none, .pick (.t p77) (.t p80) (.c (.bool false))⟩, ⟨(some p82), none, .mov (.t p81)⟩, ⟨(some p83), (some (p82, true)), .mov (.t p11)⟩, ⟨(some p84), (some (p82, true)), .bin .eql (.t p83) (.c (.int .i64 0))⟩, ⟨(some p85), none, .pick (.t p82) (.t p84) (.c (.bool false))⟩, ⟨(some p86), none, .mov (.t p85)⟩, ⟨(some p87), (some (p86, true)), .mov (.t p10)⟩, ⟨(some p88), none, .pick (.t p86) (.t p87) (.c (.bool false))⟩, ⟨(some p89), none, .mov (.t p88)⟩, ⟨(some p90), (some (p89, true)), .mov (.t p9)⟩, ⟨(some p91), (some (p89, true)), .bin .eql (.t p90) (.c (.int .i64 6))⟩, ⟨(some p92), none, .pick (.t p89) (.t p91) (.c (.bool false))⟩, ⟨(some p93), none, .mov (.t p92)⟩, ⟨(some p94), (some (p93, true)), .mov (.t p14)⟩, ⟨(some p95), (some (p93, true)), .bin .eql (.t p94) (.c (.int .i64 0))⟩, ⟨(some p96), none, .pick (.t p93) (.t p95) (.c (.bool false))⟩, ⟨(some p97), none, .mov (.t p96)⟩, ⟨(some p98), (some (p97, true)), .mov (.t p13)⟩, ⟨(some p99), none, .pick (.t p97) (.t p98) (.c (.bool false))⟩, ⟨(some p100), none, .mov (.t p99)⟩, ⟨(some p101), (some (p100, true)), .mov (.t p12)⟩, ⟨(some p102), (some (p100, true)), .len 1 (.t p101)⟩, ⟨(some p103), (some (p100, true)), .bin .eql (.t p102) (.c (.int .i64 1))⟩, ⟨(some p104), none, .pick (.t p100) (.t p103) (.c (.bool false))⟩, ⟨(some p105), none, .mov (.t p104)⟩, ⟨(some p106), (some (p105, true)), .mov (.t p12)⟩, ⟨(some p107), (some (p105, true)), .ias 2 (.t p106) (.c (.int .i64 0))⟩, ⟨(some p108), (some (p105, true)), .ld (some 2) (.t p107)⟩, ⟨(some p109), (some (p105, true)), .build [(.int .i64 0), (.int .i64 0)] [(0, 1, (.c (.int .i64 (-1)))), (1, 1, (.c (.int .i64 0)))]⟩, ⟨(some p110), (some (p105, true)), .eqs (.cells [.int, .int]) false (.t p108) (.t p109)⟩, ⟨(some p111), none, .pick (.t p105) (.t p110) (.c (.bool false))⟩, ⟨(some p112), none, .mov (.t p111)⟩, ⟨(some p113), (some (p112, true)), .mov (.t p16)⟩, ⟨(some p114), (some (p112, true)), .bin .eql (.t p113) (.c (.int .i64 0))⟩, ⟨(some p115), none, .pick (.t p112) (.t p114) (.c (.bool false))⟩, ⟨(some p116), none, .mov (.t p115)⟩, ⟨(some p117), (some (p116, true)), .mov (.t p15)⟩, ⟨(some p118), (some (p116, true)), .len 1 (.t p117)⟩, ⟨(some p119), (some (p116, true)), .bin .eql (.t p118) (.c (.int .i64 1))⟩, ⟨(some p120), none, .pick (.t p116) (.t p119) (.c (.bool false))⟩, ⟨(some p121), none, .mov (.t p120)⟩, ⟨(some p122), (some (p121, true)), .mov (.t p15)⟩, ⟨(some p123), (some (p121, true)), .ias 2 (.t p122) (.c (.int .i64 0))⟩, ⟨(some p124), (some (p121, true)), .ld (some 2) (.t p123)⟩, ⟨(some p125), (some (p121, true)), .build [(.int .i64 0), (.int .i64 0)] [(0, 1, (.c (.int .i64 (-1)))), (1, 1, (.c (.int .i64 0)))]⟩, ⟨(some p126), (some (p121, true)), .eqs (.cells [.int, .int]) false (.t p124) (.t p125)⟩, ⟨(some p127), none, .pick (.t p121) (.t p126) (.c (.bool false))⟩, ⟨(some p128), none, .mov (.t p127)⟩, ⟨(some p129), (some (p128, true)), .call (.c (.func (.func 43) #[] #[])) [(.c (.slice none 0 0))]⟩, ⟨(some p130), (some (p128, true)), .bin .eql (.t p129) (.c (.int .i64 20))⟩, ⟨(some p131), none, .pick (.t p128) (.t p130) (.c (.bool false))⟩, ⟨(some p0), none, .mov (.t p131)⟩] []) .ret))))))))))))))) }
def a22 : AFunc := { params := [p0, p1, p2, p3], init := i40, results := [.tmp p8, .tmp p9, .tmp p10], body := (.seq (.reg [⟨(some p8), none, .mov (.c (.slice none 0 0))⟩, ⟨(some p9), none, .mov (.c (.bool false))⟩, ⟨(some p10), none, .mov (.c (.int .i64 0))⟩] []) (.kill [p8, p9, p10] (.seq (.reg [⟨(some p17), none, .mov (.t p0)⟩, ⟨(some p18), none, .mov (.t p3)⟩, ⟨(some p19), none, .mov (.t p1)⟩, ⟨(some p20), none, .mov (.t p2)⟩, ⟨(some p21), none, .bslice 2 1 [(.slice none 0 0)] [(0, 1, (.t p19)), (1, 1, (.t p20))]⟩, ⟨(some p22), none, .call (.c (.func (.func 46) #[] #[])) [(.t p17), (.t p18), (.t p21)]⟩, ⟨(some p16), none, .mov (.t p22)⟩, ⟨(some p23), none, .ext 0 (.t p16)⟩, ⟨(some p24), none, .ext 1 (.t p16)⟩, ⟨(some p11), none, .mov (.t p23)⟩, ⟨(some p12), none, .mov (.t p24)⟩] []) (.kill [p0, p3, p16, p17, p18, p19, p20, p21, p22, p23, p24] (.seq (.seq (.reg [⟨(some p25), none, .mov (.t p12)⟩, ⟨(some p26), none, .bin .neq (.t p25) (.c (.int .i64 0))⟩] []) (.kill [p25] (.cond (.t p26) (.kill [p26] (.seq (.reg [⟨(some p27), none, .mov (.t p12)⟩, ⟨(some p8), none, .mov (.c (.slice none 0 0))⟩, ⟨(some p9), none, .mov (.c (.bool false))⟩, ⟨(some p10), none, .mov (.t p27)⟩] []) .ret)) .skip))) (.kill [p26] (.seq (.reg [⟨(some p28), none, .mov (.t p2)⟩, ⟨(some p29), none, .call (.c (.func (.func 48) #[] #[])) [(.t p28)]⟩, ⟨(some p13), none, .zero [(.int .i64 0), (.int .i64 0), (.int .i64 0), (.int .i64 0)]⟩, ⟨none, none, .st 4 (.t p13) (.t p29)⟩] []) (.kill [p2, p28, p29] (.seq (.reg [⟨(some p31), none, .mov (.t p11)⟩, ⟨(some p32), none, .mov (.t p1)⟩, ⟨(some p33), none, .call (.c (.func (.func 48) #[] #[])) [(.t p32)]⟩, ⟨(some p34), none, .clos (.func 52) [] [(.t p13)]⟩, ⟨(some p35), none, .call (.c (.func (.func 51) #[] #[])) [(.t p31), (.t p33), (.t p34)]⟩, ⟨(some p30), none, .mov (.t p35)⟩, ⟨(some p36), none, .ext 0 (.t p30)⟩, ⟨(some p37), none, .ext 1 (.t p30)⟩, ⟨(some p14), none, .mov (.t p36)⟩, ⟨(some p15), none, .mov (.t p37)⟩] []) (.kill [p1, p11, p13, p30, p31, p32, p33, p34, p35, p36, p37] (.seq (.reg [⟨(some p38), none, .mov (.t p14)⟩, ⟨(some p39), none, .mov (.t p15)⟩, ⟨(some p8), none, .mov (.t p38)⟩, ⟨(some p9), none, .mov (.t p39)⟩, ⟨(some p10), none, .mov (.c (.int .i64 0))⟩] []) .ret))))))))))) }
def a25 : AFunc := { params := [p0, p1, p2], init := i34, results := [.tmp p6, .tmp p7, .tmp p8], body := (.seq (.reg [⟨(some p6), none, .mov (.c (.int .i64 0))⟩, ⟨(some p7), none, .mov (.c (.bool false))⟩, ⟨(some p8), none, .mov (.c (.int .i64 0))⟩] []) (.kill [p6, p7, p8] (.seq (.reg [⟨(some p12), none, .mov (.t p0)⟩, ⟨(some p13), none, .mov (.t p1)⟩, ⟨(some p14), none, .mov (.t p2)⟩, ⟨(some p15), none, .call (.c (.func (.func 53) #[] #[])) [(.t p12), (.t p13), (.t p14)]⟩, ⟨(some p11), none, .mov (.t p15)⟩, ⟨(some p16), none, .ext 0 (.t p11)⟩, ⟨(some p17), none, .ext 1 (.t p11)⟩, ⟨(some p9), none, .mov (.t p16)⟩, ⟨(some p10), none, .mov (.t p17)⟩] []) (.kill [p11, p12, p13, p14, p15, p16, p17] (.seq (.seq (.reg [⟨(some p18), none, .mov (.t p9)⟩, ⟨(some p19), none, .un .not (.t p18)⟩] []) (.kill [p9, p18] (.cond (.t p19) (.kill [p19] (.seq (.reg [⟨(some p20), none, .mov (.t p10)⟩, ⟨(some p6), none, .mov (.c (.int .i64 0))⟩, ⟨(some p7), none, .mov (.c (.bool false))⟩, ⟨(some p8), none, .mov (.t p20)⟩] []) .ret)) .skip))) (.kill [p19] (.seq (.reg [⟨(some p21), none, .mov (.t p0)⟩, ⟨(some p22), none, .mov (.t p1)⟩, ⟨(some p23), none, .call (.c (.func (.func 54) #[] #[])) [(.t p21), (.t p22), (.c (.bool true))]⟩, ⟨(some p24), none, .mov (.t p2)⟩, ⟨(some p25), none, .call (.c (.func (.func 55) #[] #[])) [(.t p23), (.t p24)]⟩, ⟨(some p26), none, .len 1 (.t p25)⟩, ⟨(some p27), none, .mov (.t p0)⟩, ⟨(some p28), none, .mov (.t p1)⟩, ⟨(some p29), none, .call (.c (.func (.func 54) #[] #[])) [(.t p27), (.t p28), (.c (.bool false))]⟩, ⟨(some p30), none, .mov (.t p2)⟩, ⟨(some p31), none, .call (.c (.func (.func 55) #[] #[])) [(.t p29), (.t p30)]⟩, ⟨(some p32), none, .len 1 (.t p31)⟩, ⟨(some p33), none, .min (.t p26) [(.t p32)]⟩, ⟨(some p6), none, .mov (.t p33)⟩, ⟨(some p7), none, .mov (.c (.bool true))⟩, ⟨(some p8), none, .mov (.c (.int .i64 0))⟩] []) .ret))))))) }
def a26 : AFunc := { params := [p0, p1, p2, p3], init := i29, results := [.tmp p8, .tmp p9, .tmp p10], body := (.seq (.reg [⟨(some p8), none, .mov (.c (.slice none 0 0))⟩, ⟨(some p9), none, .mov (.c (.bool false))⟩, ⟨(some p10), none, .mov (.c (.int .i64 0))⟩] []) (.kill [p8, p9, p10] (.seq (.reg [⟨(some p14), none, .mov (.t p0)⟩, ⟨(some p15), none, .mov (.t p1)⟩, ⟨(some p16), none, .mov (.t p2)⟩, ⟨(some p17), none, .call (.c (.func (.func 53) #[] #[])) [(.t p14), (.t p15), (.t p16)]⟩, ⟨(some p13), none, .mov (.t p17)⟩, ⟨(some p18), none, .ext 0 (.t p13)⟩, ⟨(some p19), none, .ext 1 (.t p13)⟩, ⟨(some p11), none, .mov (.t p18)⟩, ⟨(some p12), none, .mov (.t p19)⟩] []) (.kill [p13, p14, p15, p16, p17, p18, p19] (.seq (.seq (.reg [⟨(some p20), none, .mov (.t p11)⟩, ⟨(some p21), none, .un .not (.t p20)⟩] []) (.kill [p11, p20] (.cond (.t p21) (.kill [p21] (.seq (.reg [⟨(some p22), none, .mov (.t p12)⟩, ⟨(some p8), none, .mov (.c (.slice none 0 0))⟩, ⟨(some p9), none, .mov (.c (.bool false))⟩, ⟨(some p10), none, .mov (.t p22)⟩] []) .ret)) .skip))) (.kill [p21] (.seq (.reg [⟨(some p23), none, .mov (.t p0)⟩, ⟨(some p24), none, .mov (.t p1)⟩, ⟨(some p25), none, .mov (.t p3)⟩, ⟨(some p26), none, .call (.c (.func (.func 54) #[] #[])) [(.t p23), (.t p24), (.t p25)]⟩, ⟨(some p27), none, .mov (.t p2)⟩, ⟨(some p28), none, .call (.c (.func (.func 55) #[] #[])) [(.t p26), (.t p27)]⟩, ⟨(some p8), none, .mov (.t p28)⟩, ⟨(some p9), none, .mov (.c (.bool true))⟩, ⟨(some p10), none, .mov (.c (.int .i64 0))⟩] []) .ret))))))) }
def a30 : AFunc := { params := [p0], init := i25, results := [.tmp p2, .tmp p3], body := (.seq (.reg [⟨(some p2), none, .mov (.c (.slice none 0 0))⟩, ⟨(some p3), none, .mov (.c (.int .i64 0))⟩] []) (.kill [p2, p3] (.seq (.seq (.reg [⟨(some p7), none, .mov (.t p0)⟩, ⟨(some p8), none, .call (.c (.func (.func 43) #[] #[])) [(.t p7)]⟩, ⟨(some p4), none, .mov (.t p8)⟩] []) (.kill [p7, p8] (.seq (.reg [⟨(some p9), none, .mov (.t p4)⟩, ⟨(some p10), none, .bin .neq (.t p9) (.c (.int .i64 0))⟩] []) (.kill [p9] (.cond (.t p10) (.kill [p10] (.seq (.reg [⟨(some p11), none, .mov (.t p4)⟩, ⟨(some p2), none, .mov (.c (.slice none 0 0))⟩, ⟨(some p3), none, .mov (.t p11)⟩] []) .ret)) .skip))))) (.kill [p10] (.seq (.reg [⟨(some p5), none, .mov (.c (.slice none 0 0))⟩] []) (.seq (.seq (.reg [⟨(some p6), none, .mov (.c (.int .i64 0))⟩] []) (.block 0 (.loop (.seq (.seq (.reg [⟨(some p12), none, .mov (.t p6)⟩, ⟨(some p13), none, .mov (.t p0)⟩, ⟨(some p14), none, .call (.c (.func (.func 57) #[] #[])) [(.t p13)]⟩, ⟨(some p15), none, .bin .leq (.t p12) (.t p14)⟩] []) (.kill [p12, p13, p14] (.cond (.t p15) .skip (.exit 0)))) (.kill [p15] (.seq (.block 1 (.reg [⟨(some p20), none, .mov (.t p5)⟩, ⟨(some p21), none, .mov (.t p6)⟩, ⟨(some p22), none, .bslice 1 1 [(.int .i64 0)] [(0, 1, (.t p21))]⟩, ⟨(some p23), none, .app 1 (.t p20) (.t p22)⟩, ⟨(some p5), none, .mov (.t p23)⟩] [])) (.kill [p20, p21, p22, p23] (.reg [⟨(some p16), none, .mov (.t p6)⟩, ⟨(some p17), none, .mov (.t p0)⟩, ⟨(some p18), none, .call (.c (.func (.func 58) #[] #[])) [(.t p17)]⟩, ⟨(some p19), none, .bin .add (.t p16) (.t p18)⟩, ⟨(some p6), none, .mov (.t p19)⟩] [])))))))) (.kill [p0, p6, p15] (.seq (.reg [⟨(some p24), none, .mov (.t p5)⟩, ⟨(some p2), none, .mov (.t p24)⟩, ⟨(some p3), none, .mov (.c (.int .i64 0))⟩] []) .ret)))))))) }
def a31 : AFunc := { params := [p0, p1], init := i21, results := [.tmp p4, .tmp p5, .tmp p6], body := (.seq (.reg [⟨(some p4), none, .mov (.c (.int .i64 0))⟩, ⟨(some p5), none, .mov (.c (.bool false))⟩, ⟨(some p6), none, .mov (.c (.int .i64 0))⟩] []) (.kill [p4, p5, p6] (.seq (.reg [⟨(some p11), none, .mov (.t p0)⟩, ⟨(some p12), none, .mov (.t p1)⟩, ⟨(some p13), none, .call (.c (.func (.func 59) #[] #[])) [(.t p11), (.t p12)]⟩, ⟨(some p10), none, .mov (.t p13)⟩, ⟨(some p14), none, .ext 0 (.t p10)⟩, ⟨(some p15), none, .ext 1 (.t p10)⟩, ⟨(some p16), none, .ext 2 (.t p10)⟩, ⟨(some p7), none, .mov (.t p14)⟩, ⟨(some p8), none, .mov (.t p15)⟩, ⟨(some p9), none, .mov (.t p16)⟩] []) (.kill [p0, p1, p10, p11, p12, p13, p14, p15, p16] (.seq (.reg [⟨(some p17), none, .mov (.t p7)⟩, ⟨(some p18), none, .len 1 (.t p17)⟩, ⟨(some p19), none, .mov (.t p8)⟩, ⟨(some p20), none, .mov (.t p9)⟩, ⟨(some p4), none, .mov (.t p18)⟩, ⟨(some p5), none, .mov (.t p19)⟩, ⟨(some p6), none, .mov (.t p20)⟩] []) .ret))))) }
def a33 : AFunc := { params := [p0, p1], init := i26, results := [.tmp p4], body := (.seq (.reg [⟨(some p4), none, .mov (.c (.bool false))⟩] []) (.kill [p4] (.seq (.seq (.reg [⟨(some p6), none, .mov (.t p0)⟩, ⟨(some p7), none, .len 1 (.t p6)⟩, ⟨(some p8), none, .mov (.t p1)⟩, ⟨(some p9), none, .len 1 (.t p8)⟩, ⟨(some p10), none, .bin .neq (.t p7) (.t p9)⟩] []) (.kill [p6, p7, p8, p9] (.cond (.t p10) (.kill [p10] (.seq (.reg [⟨(some p4), none, .mov (.c (.bool false))⟩] []) .ret)) .skip))) (.kill [p10] (.seq (.seq (.reg [⟨(some p5), none, .mov (.c (.int .i64 0))⟩] []) (.block 0 (.loop (.seq (.seq (.reg [⟨(some p11), none, .mov (.t p5)⟩, ⟨(some p12), none, .mov (.t p0)⟩, ⟨(some p13), none, .len 1 (.t p12)⟩, ⟨(some p14), none, .bin .lss (.t p11) (.t p13)⟩] []) (.kill [p11, p12, p13] (.cond (.t p14) .skip (.exit 0)))) (.kill [p14] (.seq (.block 1 (.seq (.reg [⟨(some p17), none, .mov (.t p0)⟩, ⟨(some p18), none, .mov (.t p5)⟩, ⟨(some p19), none, .ias 1 (.t p17) (.t p18)⟩, ⟨(some p20), none, .ld none (.t p19)⟩, ⟨(some p21), none, .mov (.t p1)⟩, ⟨(some p22), none, .mov (.t p5)⟩, ⟨(some p23), none, .ias 1 (.t p21) (.t p22)⟩, ⟨(some p24), none, .ld none (.t p23)⟩, ⟨(some p25), none, .bin .neq (.t p20) (.t p24)⟩] []) (.kill [p17, p18, p19, p20, p21, p22, p23, p24] (.cond (.t p25) (.kill [p25] (.seq (.reg [⟨(some p4), none, .mov (.c (.bool false))⟩] []) .ret)) .skip)))) (.kill [p25] (.reg [⟨(some p15), none, .mov (.t p5)⟩, ⟨(some p16), none, .bin .add (.t p15) (.c (.int .i64 1))⟩, ⟨(some p5), none, .mov (.t p16)⟩] [])))))))) (.kill [p0, p1, p5, p14] (.seq (.reg [⟨(some p4), none, .mov (.c (.bool true))⟩] []) .ret))))))) }
def a40 : AFunc := { params := [p0, p1, p2], init := i60, results := [.tmp p6, .tmp p7, .tmp p8], body := (.seq (.reg [⟨(some p6), none, .mov (.c (.slice none 0 0))⟩, ⟨(some p7), none, .mov (.c (.int .i64 0))⟩, ⟨(some p8), none, .mov (.c (.int .i64 0))⟩] []) (.kill [p6, p7, p8] (.seq (.reg [⟨(some p18), none, .mov (.t p0)⟩, ⟨(some p19), none, .mov (.t p1)⟩, ⟨(some p20), none, .bslice 1 1 [(.slice none 0 0)] [(0, 1, (.t p19))]⟩, ⟨(some p21), none, .call (.c (.func (.func 46) #[] #[])) [(.t p18), (.c (.bool false)), (.t p20)]⟩, ⟨(some p17), none, .mov (.t p21)⟩, ⟨(some p22), none, .ext 0 (.t p17)⟩, ⟨(some p23), none, .ext 1 (.t p17)⟩, ⟨(some p9), none, .mov (.t p22)⟩, ⟨(some p10), none, .mov (.t p23)⟩] []) (.kill [p0, p17, p18, p19, p20, p21, p22, p23] (.seq (.seq (.reg [⟨(some p24), none, .mov (.t p10)⟩, ⟨(some p25), none, .bin .neq (.t p24) (.c (.int .i64 0))⟩] []) (.kill [p24] (.cond (.t p25) (.kill [p25] (.seq (.reg [⟨(some p26), none, .mov (.t p10)⟩, ⟨(some p6), none, .mov (.c (.slice none 0 0))⟩, ⟨(some p7), none, .mov (.c (.int .i64 0))⟩, ⟨(some p8), none, .mov (.t p26)⟩] []) .ret)) .skip))) (.kill [p25] (.seq (.reg [⟨(some p27), none, .mov (.t p1)⟩, ⟨(some p28), none, .call (.c (.func (.func 48) #[] #[])) [(.t p27)]⟩, ⟨(some p11), none, .zero [(.int .i64 0), (.int .i64 0), (.int .i64 0), (.int .i64 0)]⟩, ⟨none, none, .st 4 (.t p11) (.t p28)⟩, ⟨(some p12), none, .mov (.c (.int .i64 0))⟩] []) (.kill [p1, p27, p28] (.seq (.seq (.reg [⟨(some p29), none, .mov (.t p2)⟩, ⟨(some p30), none, .len 1 (.t p29)⟩, ⟨(some p31), none, .mov (.c (.int .i64 0))⟩] []) (.kill [p2] (.block 0 (.loop (.seq (.reg [⟨(some p32), none, .bin .lss (.t p31) (.t p30)⟩] []) (.seq (.cond (.t p32) .skip (.exit 0)) (.kill [p32] (.seq (.block 1 (.seq (.reg [⟨(some p33), none, .ias 2 (.t p29) (.t p31)⟩, ⟨(some p34), none, .ld (some 2) (.t p33)⟩, ⟨(some p14), none, .zero [(.int .i64 0), (.int .i64 0)]⟩, ⟨none, none, .st 2 (.t p14) (.t p34)⟩] []) (.kill [p33, p34] (.seq (.reg [⟨(some p35), none, .iad 2 1 (.t p14) (.c (.int .i64 0))⟩, ⟨(some p36), none, .ld none (.t p35)⟩, ⟨(some p37), none, .iad 2 1 (.t p14) (.c (.int .i64 1))⟩, ⟨(some p38), none, .ld none (.t p37)⟩, ⟨(some p39), none, .build [(.int .i64 0), (.int .i64 0)] [(0, 1, (.t p36)), (1, 1, (.t p38))]⟩, ⟨(some p15), none, .zero [(.int .i64 0), (.int .i64 0)]⟩, ⟨none, none, .st 2 (.t p15) (.t p39)⟩] []) (.kill [p14, p35, p36, p37, p38, p39] (.seq (.seq (.reg [⟨(some p40), none, .ld (some 2) (.t p15)⟩, ⟨(some p41), none, .mov (.t p9)⟩, ⟨(some p42), none, .call (.c (.func (.func 61) #[] #[])) [(.t p40), (.t p41)]⟩, ⟨(some p43), none, .un .not (.t p42)⟩] []) (.kill [p40, p41, p42] (.cond (.t p43) (.exit 0) .skip))) (.kill [p43] (.seq (.reg [⟨(some p44), none, .ld (some 2) (.t p15)⟩, ⟨(some p45), none, .clos (.func 62) [(.t p44)] []⟩, ⟨(some p16), none, .mov (.t p45)⟩] []) (.kill [p15, p44, p45] (.seq (.reg [⟨(some p46), none, .mov (.t p16)⟩, ⟨(some p47), none, .mov (.t p9)⟩, ⟨(some p48), none, .ld (some 4) (.t p11)⟩, ⟨(some p49), none, .call (.t p46) [(.t p47), (.t p48)]⟩, ⟨none, none, .st 4 (.t p11) (.t p49)⟩] []) (.kill [p16, p46, p47, p48, p49] (.reg [⟨(some p50), none, .mov (.t p12)⟩, ⟨(some p51), none, .bin .add (.t p50) (.c (.int .i64 1))⟩, ⟨(some p12), none, .mov (.t p51)⟩] [])))))))))))) (.kill [p50, p51] (.reg [⟨(some p52), none, .bin .add (.t p31) (.c (.int .i64 1))⟩, ⟨(some p31), none, .mov (.t p52)⟩] [])))))))))) (.kill [p29, p30, p31, p32, p43] (.seq (.reg [⟨(some p53), none, .mov (.t p9)⟩, ⟨(some p54), none, .nilchk (.t p53)⟩, ⟨(some p55), none, .fad 0 (.t p54)⟩, ⟨(some p56), none, .ld none (.t p55)⟩, ⟨(some p57), none, .slarr 4 1 (.t p11) none (some (.t p56)) none⟩, ⟨(some p58), none, .call (.c (.func (.func 63) #[] #[])) [(.t p57)]⟩, ⟨(some p59), none, .mov (.t p12)⟩, ⟨(some p6), none, .mov (.t p58)⟩, ⟨(some p7), none, .mov (.t p59)⟩, ⟨(some p8), none, .mov (.c (.int .i64 0))⟩] []) .ret))))))))))) }
def a41 : AFunc := { params := [p0, p1], init := i14, results := [.tmp p4], body := (.seq (.reg [⟨(some p4), none, .mov (.c (.slice none 0 0))⟩] []) (.kill [p4] (.seq (.reg [⟨(some p5), none, .mov (.c (.slice none 0 0))⟩] []) (.seq (.reg [⟨(some p6), none, .mov (.t p5)⟩, ⟨(some p7), none, .mov (.t p0)⟩, ⟨(some p8), none, .mov (.t p0)⟩, ⟨(some p9), none, .len 1 (.t p8)⟩, ⟨(some p10), none, .mov (.t p1)⟩, ⟨(some p11), none, .min (.t p9) [(.t p10)]⟩, ⟨(some p12), none, .slsl 1 (.t p7) none (some (.t p11)) none⟩, ⟨(some p13), none, .app 1 (.t p6) (.t p12)⟩, ⟨(some p4), none, .mov (.t p13)⟩] []) .ret)))) }
def a43 : AFunc := { params := [p0], init := i21, results := [.tmp p2], body := (.seq (.reg [⟨(some p2), none, .mov (.c (.int .i64 0))⟩] []) (.kill [p2] (.seq (.seq (.reg [⟨(some p3), none, .mov (.t p0)⟩, ⟨(some p4), none, .len 1 (.t p3)⟩, ⟨(some p5), none, .bin .lss (.t p4) (.c (.int .i64 1))⟩, ⟨(some p6), none, .mov (.t p5)⟩, ⟨(some p7), (some (p6, false)), .mov (.t p0)⟩, ⟨(some p8), (some (p6, false)), .len 1 (.t p7)⟩, ⟨(some p9), (some (p6, false)), .bin .gtr (.t p8) (.c (.int .i64 4))⟩, ⟨(some p10), none, .pick (.t p6) (.c (.bool true)) (.t p9)⟩, ⟨(some p11), none, .mov (.t p10)⟩, ⟨(some p12), (some (p11, false)), .mov (.t p0)⟩, ⟨(some p13), (some (p11, false)), .call (.c (.func (.func 64) #[] #[])) [(.t p12)]⟩, ⟨(some p14), (some (p11, false)), .bin .lss (.t p13) (.c (.int .i64 1))⟩, ⟨(some p15), none, .pick (.t p11) (.c (.bool true)) (.t p14)⟩, ⟨(some p16), none, .mov (.t p15)⟩, ⟨(some p17), (some (p16, false)), .mov (.t p0)⟩, ⟨(some p18), (some (p16, false)), .call (.c (.func (.func 57) #[] #[])) [(.t p17)]⟩, ⟨(some p19), (some (p16, false)), .bin .gtr (.t p18) (.c (.int .i64 12))⟩, ⟨(some p20), none, .pick (.t p16) (.c (.bool true)) (.t p19)⟩] []) (.kill [p0, p3, p4, p5, p6, p7, p8, p9, p10, p11, p12, p13, p14, p15, p16, p17, p18, p19] (.cond (.t p20) (.kill [p20] (.seq (.reg [⟨(some p2), none, .mov (.c (.int .i64 20))⟩] []) .ret)) .skip))) (.kill [p20] (.seq (.reg [⟨(some p2), none, .mov (.c (.int .i64 0))⟩] []) .ret))))) }
def a46 : AFunc := { params := [p0, p1, p2], init := i63, results := [.tmp p6, .tmp p7], body := (.seq (.reg [⟨(some p6), none, .mov (.c (.pointer none))⟩, ⟨(some p7), none, .mov (.c (.int .i64 0))⟩] []) (.kill [p6, p7] (.seq (.seq (.reg [⟨(some p14), none, .mov (.t p0)⟩, ⟨(some p15), none, .call (.c (.func (.func 43) #[] #[])) [(.t p14)]⟩, ⟨(some p8), none, .mov (.t p15)⟩] []) (.kill [p14, p15] (.seq (.reg [⟨(some p16), none, .mov (.t p8)⟩, ⟨(some p17), none, .bin .neq (.t p16) (.c (.int .i64 0))⟩] []) (.kill [p16] (.cond (.t p17) (.kill [p17] (.seq (.reg [⟨(some p18), none, .mov (.t p8)⟩, ⟨(some p6), none, .mov (.c (.pointer none))⟩, ⟨(some p7), none, .mov (.t p18)⟩] []) .ret)) .skip))))) (.kill [p17] (.seq (.reg [⟨(some p19), none, .mov (.t p0)⟩, ⟨(some p20), none, .len 1 (.t p19)⟩, ⟨(some p21), none, .mov (.t p1)⟩, ⟨(some p22), none, .build [(.int .i64 0), (.int .i64 0), (.int .i64 0), (.int .i64 0), (.int .i64 0), (.bool false)] [(0, 1, (.t p20)), (5, 1, (.t p21))]⟩, ⟨(some p23), none, .box (.t p22)⟩, ⟨(some p9), none, .mov (.t p23)⟩] []) (.kill [p1, p19, p20, p21, p22, p23] (.seq (.reg [⟨(some p24), none, .mov (.t p9)⟩, ⟨(some p25), none, .nilchk (.t p24)⟩, ⟨(some p26), none, .fad 1 (.t p25)⟩, ⟨(some p27), none, .slarr 4 1 (.t p26) none none none⟩, ⟨(some p28), none, .mov (.t p0)⟩, ⟨(some p29), none, .cpy 1 (.t p27) (.t p28)⟩] []) (.kill [p24, p25, p26, p27, p28, p29] (.seq (.seq (.reg [⟨(some p30), none, .mov (.t p2)⟩, ⟨(some p31), none, .len 1 (.t p30)⟩, ⟨(some p32), none, .mov (.c (.int .i64 0))⟩] []) (.kill [p2] (.block 0 (.loop (.seq (.reg [⟨(some p33), none, .bin .lss (.t p32) (.t p31)⟩] []) (.seq (.cond (.t p33) .skip (.exit 0)) (.kill [p33] (.seq (.block 1 (.seq (.reg [⟨(some p34), none, .ias 1 (.t p30) (.t p32)⟩, ⟨(some p35), none, .ld none (.t p34)⟩, ⟨(some p11), none, .mov (.t p35)⟩] []) (.kill [p34, p35] (.seq (.seq (.reg [⟨(some p36), none, .mov (.t p11)⟩, ⟨(some p37), none, .len 1 (.t p36)⟩, ⟨(some p38), none, .mov (.t p9)⟩, ⟨(some p39), none, .nilchk (.t p38)⟩, ⟨(some p40), none, .fad 0 (.t p39)⟩, ⟨(some p41), none, .ld none (.t p40)⟩, ⟨(some p42), none, .bin .neq (.t p37) (.t p41)⟩] []) (.kill [p36, p37, p38, p39, p40, p41] (.cond (.t p42) (.kill [p42] (.seq (.reg [⟨(some p6), none, .mov (.c (.pointer none))⟩, ⟨(some p7), none, .mov (.c (.int .i64 1))⟩] []) .ret)) .skip))) (.kill [p42] (.seq (.reg [⟨(some p43), none, .mov (.t p11)⟩, ⟨(some p44), none, .len 1 (.t p43)⟩, ⟨(some p45), none, .mov (.c (.int .i64 0))⟩] []) (.kill [p11] (.block 2 (.loop (.seq (.reg [⟨(some p46), none, .bin .lss (.t p45) (.t p44)⟩] []) (.seq (.cond (.t p46) .skip (.exit 2)) (.kill [p46] (.seq (.block 3 (.seq (.reg [⟨(some p47), none, .mov (.t p45)⟩, ⟨(some p48), none, .ias 1 (.t p43) (.t p45)⟩, ⟨(some p49), none, .ld none (.t p48)⟩, ⟨(some p12), none, .mov (.t p47)⟩, ⟨(some p13), none, .mov (.t p49)⟩] []) (.kill [p47, p48, p49] (.seq (.reg [⟨(some p50), none, .mov (.t p13)⟩, ⟨(some p51), none, .bin .lss (.t p50) (.c (.int .i64 0))⟩, ⟨(some p52), none, .mov (.t p51)⟩, ⟨(some p53), (some (p52, false)), .mov (.t p13)⟩, ⟨(some p54), (some (p52, false)), .mov (.t p0)⟩, ⟨(some p55), (some (p52, false)), .mov (.t p12)⟩, ⟨(some p56), (some (p52, false)), .ias 1 (.t p54) (.t p55)⟩, ⟨(some p57), (some (p52, false)), .ld none (.t p56)⟩, ⟨(some p58), (some (p52, false)), .bin .gtr (.t p53) (.t p57)⟩, ⟨(some p59), none, .pick (.t p52) (.c (.bool true)) (.t p58)⟩] []) (.kill [p12, p13, p50, p51, p52, p53, p54, p55, p56, p57, p58] (.cond (.t p59) (.kill [p59] (.seq (.reg [⟨(some p6), none, .mov (.c (.pointer none))⟩, ⟨(some p7), none, .mov (.c (.int .i64 1))⟩] []) .ret)) .skip)))))) (.kill [p59] (.reg [⟨(some p60), none, .bin .add (.t p45) (.c (.int .i64 1))⟩, ⟨(some p45), none, .mov (.t p60)⟩] []))))))))))))))) (.kill [p43, p44, p45, p46] (.reg [⟨(some p61), none, .bin .add (.t p32) (.c (.int .i64 1))⟩, ⟨(some p32), none, .mov (.t p61)⟩] [])))))))))) (.kill [p0, p30, p31, p32, p33, p46] (.seq (.reg [⟨(some p62), none, .mov (.t p9)⟩, ⟨(some p6), none, .mov (.t p62)⟩, ⟨(some p7), none, .mov (.c (.int .i64 0))⟩] []) .ret))))))))))) }
def a47 : AFunc := { params := [p0, p1], init := i6, results := [.tmp p4], body := (.seq (.reg [⟨(some p2), none, .box (.t p0)⟩, ⟨(some p3), none, .box (.t p1)⟩, ⟨(some p4), none, .mov (.c .nilFunc)⟩] []) (.kill [p0, p1, p4] (.seq (.reg [⟨(some p5), none, .clos (.func 65) [] [(.t p2), (.t p3)]⟩, ⟨(some p4), none, .mov (.t p5)⟩] []) .ret))) }
def a48 : AFunc := { params := [p0], init := i8, results := [.cell (some 4) p2], body := (.seq (.reg [⟨(some p2), none, .zero [(.int .i64 0), (.int .i64 0), (.int .i64 0), (.int .i64 0)]⟩] []) (.seq (.reg [⟨(some p3), none, .zero [(.int .i64 0), (.int .i64 0), (.int .i64 0), (.int .i64 0)]⟩] []) (.seq (.reg [⟨(some p4), none, .slarr 4 1 (.t p3) none none none⟩, ⟨(some p5), none, .mov (.t p0)⟩, ⟨(some p6), none, .cpy 1 (.t p4) (.t p5)⟩] []) (.kill [p0, p4, p5, p6] (.seq (.reg [⟨(some p7), none, .ld (some 4) (.t p3)⟩, ⟨none, none, .st 4 (.t p2) (.t p7)⟩] []) .ret))))) }
def a51 : AFunc := { params := [p0, p1, p2], init := i44, results := [.tmp p6, .tmp p7], body := (.seq (.reg [⟨(some p4), none, .box (.t p1)⟩, ⟨(some p6), none, .mov (.c (.slice none 0 0))⟩, ⟨(some p7), none, .mov (.c (.bool false))⟩] []) (.kill [p1, p6, p7] (.seq (.reg [⟨(some p14), none, .mov (.t p0)⟩, ⟨(some p15), none, .ld (some 4) (.t p4)⟩, ⟨(some p16), none, .mov (.t p2)⟩, ⟨(some p17), none, .call (.c (.func (.func 66) #[] #[])) [(.t p14), (.t p15), (.t p16)]⟩, ⟨(some p13), none, .mov (.t p17)⟩, ⟨(some p18), none, .ext 0 (.t p13)⟩, ⟨(some p19), none, .ext 1 (.t p13)⟩, ⟨(some p20), none, .ext 2 (.t p13)⟩, ⟨(some p9), none, .zero [(.int .i64 0), (.int .i64 0), (.int .i64 0), (.int .i64 0)]⟩, ⟨(some p8), none, .mov (.t p18)⟩, ⟨none, none, .st 4 (.t p9) (.t p19)⟩, ⟨(some p10), none, .mov (.t p20)⟩] []) (.kill [p0, p2, p13, p14, p15, p16, p17, p18, p19, p20] (.seq (.seq (.reg [⟨(some p21), none, .mov (.t p10)⟩, ⟨(some p22), none, .un .not (.t p21)⟩] []) (.kill [p10, p21] (.cond (.t p22) (.kill [p22] (.seq (.reg [⟨(some p6), none, .mov (.c (.slice none 0 0))⟩, ⟨(some p7), none, .mov (.c (.bool false))⟩] []) .ret)) .skip))) (.kill [p22] (.seq (.reg [⟨(some p11), none, .mov (.c (.slice none 0 0))⟩] []) (.seq (.block 0 (.loop (.seq (.seq (.reg [⟨(some p23), none, .ld (some 4) (.t p9)⟩, ⟨(some p24), none, .ld (some 4) (.t p4)⟩, ⟨(some p25), none, .eqs (.cells [.int, .int, .int, .int]) true (.t p23) (.t p24)⟩] []) (.kill [p23, p24] (.cond (.t p25) .skip (.exit 0)))) (.kill [p25] (.block 1 (.seq (.reg [⟨(some p26), none, .mov (.t p8)⟩, ⟨(some p27), none, .ld (some 4) (.t p9)⟩, ⟨(some p28), none, .look false [.int, .int, .int, .int] (.agg #[(.int .i64 0), (.int .i64 0), (.int .i64 0), (.int .i64 0), (.int .i64 0), (.int .i64 0), (.int .i64 0)]) (.t p26) (.t p27)⟩, ⟨(some p12), none, .zero [(.int .i64 0), (.int .i64 0), (.int .i64 0), (.int .i64 0), (.int .i64 0), (.int .i64 0), (.int .i64 0)]⟩, ⟨none, none, .st 7 (.t p12) (.t p28)⟩] []) (.kill [p26, p27, p28] (.seq (.reg [⟨(some p29), none, .mov (.t p11)⟩, ⟨(some p30), none, .fad 4 (.t p12)⟩, ⟨(some p31), none, .fad 0 (.t p30)⟩, ⟨(some p32), none, .ld none (.t p31)⟩, ⟨(some p33), none, .fad 4 (.t p12)⟩, ⟨(some p34), none, .fad 1 (.t p33)⟩, ⟨(some p35), none, .ld none (.t p34)⟩, ⟨(some p36), none, .build [(.int .i64 0), (.int .i64 0)] [(0, 1, (.t p32)), (1, 1, (.t p35))]⟩, ⟨(some p37), none, .bslice 1 2 [(.int .i64 0), (.int .i64 0)] [(0, 2, (.t p36))]⟩, ⟨(some p38), none, .app 2 (.t p29) (.t p37)⟩, ⟨(some p11), none, .mov (.t p38)⟩] []) (.kill [p29, p30, p31, p32, p33, p34, p35, p36, p37, p38] (.reg [⟨(some p39), none, .fad 0 (.t p12)⟩, ⟨(some p40), none, .ld (some 4) (.t p39)⟩, ⟨none, none, .st 4 (.t p9) (.t p40)⟩] [])))))))))) (.kill [p4, p8, p9, p25] (.seq (.reg [⟨(some p41), none, .mov (.t p11)⟩, ⟨(some p42), none, .call (.c (.func (.func 67) #[] #[])) [(.t p41)]⟩] []) (.kill [p41, p42] (.seq (.reg [⟨(some p43), none, .mov (.t p11)⟩, ⟨(some p6), none, .mov (.t p43)⟩, ⟨(some p7), none, .mov (.c (.bool true))⟩] []) .ret)))))))))))) }
def a52 : AFunc := { params := [p0, p1], init := i7, results := [.tmp p3], body := (.seq (.reg [⟨(some p2), none, .box (.t p0)⟩, ⟨(some p3), none, .mov (.c (.bool false))⟩] []) (.kill [p0, p3] (.seq (.reg [⟨(some p4), none, .ld (some 4) (.t p2)⟩, ⟨(some p5), none, .ld (some 4) (.t p1)⟩, ⟨(some p6), none, .eqs (.cells [.int, .int, .int, .int]) false (.t p4) (.t p5)⟩, ⟨(some p3), none, .mov (.t p6)⟩] []) .ret))) }
def a53 : AFunc := { params := [p0, p1, p2], init := i36, results := [.tmp p6, .tmp p7], body := (.seq (.reg [⟨(some p6), none, .mov (.c (.bool false))⟩, ⟨(some p7), none, .mov (.c (.int .i64 0))⟩] []) (.kill [p6, p7] (.seq (.seq (.reg [⟨(some p8), none, .mov (.t p0)⟩, ⟨(some p9), none, .mov (.t p1)⟩, ⟨(some p10), none, .min (.t p8) [(.t p9)]⟩, ⟨(some p11), none, .bin .lss (.t p10) (.c (.int .i64 1))⟩, ⟨(some p12), none, .mov (.t p11)⟩, ⟨(some p13), (some (p12, false)), .mov (.t p0)⟩, ⟨(some p14), (some (p12, false)), .mov (.t p1)⟩, ⟨(some p15), (some (p12, false)), .max (.t p13) [(.t p14)]⟩, ⟨(some p16), (some (p12, false)), .bin .gtr (.t p15) (.c (.int .i64 1000))⟩, ⟨(some p17), none, .pick (.t p12) (.c (.bool true)) (.t p16)⟩, ⟨(some p18), none, .mov (.t p17)⟩, ⟨(some p19), (some (p18, false)), .mov (.t p2)⟩, ⟨(some p20), (some (p18, false)), .bin .lss (.t p19) (.c (.int .i64 0))⟩, ⟨(some p21), none, .pick (.t p18) (.c (.bool true)) (.t p20)⟩, ⟨(some p22), none, .mov (.t p21)⟩, ⟨(some p23), (some (p22, false)), .mov (.t p2)⟩, ⟨(some p24), (some (p22, false)), .mov (.t p0)⟩, ⟨(some p25), (some (p22, false)), .mov (.t p1)⟩, ⟨(some p26), (some (p22, false)), .max (.t p24) [(.t p25)]⟩, ⟨(some p27), (some (p22, false)), .bin .gtr (.t p23) (.t p26)⟩, ⟨(some p28), none, .pick (.t p22) (.c (.bool true)) (.t p27)⟩] []) (.kill [p8, p9, p10, p11, p12, p13, p14, p15, p16, p17, p18, p19, p20, p21, p22, p23, p24, p25, p26, p27] (.cond (.t p28) (.kill [p28] (.seq (.reg [⟨(some p6), none, .mov (.c (.bool false))⟩, ⟨(some p7), none, .mov (.c (.int .i64 1))⟩] []) .ret)) .skip))) (.kill [p28] (.seq (.reg [⟨(some p29), none, .mov (.t p2)⟩, ⟨(some p30), none, .mov (.t p0)⟩, ⟨(some p31), none, .mov (.t p1)⟩, ⟨(some p32), none, .bslice 2 1 [(.int .i64 0)] [(0, 1, (.t p30)), (1, 1, (.t p31))]⟩, ⟨(some p33), none, .call (.c (.func (.func 58) #[] #[])) [(.t p32)]⟩, ⟨(some p34), none, .bin .rem (.t p29) (.t p33)⟩, ⟨(some p35), none, .bin .eql (.t p34) (.c (.int .i64 0))⟩, ⟨(some p6), none, .mov (.t p35)⟩, ⟨(some p7), none, .mov (.c (.int .i64 0))⟩] []) .ret))))) }
def a54 : AFunc := { params := [p0, p1, p2], init := i17, results := [.cell (some 7) p6], body := (.seq (.reg [⟨(some p6), none, .zero [(.int .i64 0), (.int .i64 0), (.int .i64 0), (.int .i64 0), (.int .i64 0), (.bool false), (.int .i64 0)]⟩] []) (.seq (.reg [⟨(some p8), none, .mov (.t p0)⟩, ⟨(some p9), none, .mov (.t p1)⟩, ⟨(some p10), none, .build [(.int .i64 0), (.int .i64 0), (.int .i64 0), (.int .i64 0)] [(0, 1, (.t p8)), (1, 1, (.t p9))]⟩, ⟨(some p11), none, .build [(.int .i64 0), (.int .i64 0), (.int .i64 0), (.int .i64 0), (.int .i64 0), (.bool false)] [(0, 1, (.c (.int .i64 2))), (1, 4, (.t p10))]⟩, ⟨(some p12), none, .build [(.int .i64 0), (.int .i64 0), (.int .i64 0), (.int .i64 0), (.int .i64 0), (.bool false), (.int .i64 0)] [(0, 6, (.t p11))]⟩, ⟨(some p7), none, .zero [(.int .i64 0), (.int .i64 0), (.int .i64 0), (.int .i64 0), (.int .i64 0), (.bool false), (.int .i64 0)]⟩, ⟨none, none, .st 7 (.t p7) (.t p12)⟩] []) (.kill [p0, p1, p8, p9, p10, p11, p12] (.seq (.seq (.reg [⟨(some p13), none, .mov (.t p2)⟩, ⟨(some p14), none, .un .not (.t p13)⟩] []) (.kill [p2, p13] (.cond (.t p14) (.kill [p14] (.reg [⟨(some p15), none, .fad 6 (.t p7)⟩, ⟨none, none, .st 1 (.t p15) (.c (.int .i64 1))⟩] [])) .skip))) (.kill [p14, p15] (.seq (.reg [⟨(some p16), none, .ld (some 7) (.t p7)⟩, ⟨none, none, .st 7 (.t p6) (.t p16)⟩] []) .ret)))))) }
def a55 : AFunc := { params := [p0, p1], init := i39, results := [.tmp p4], body := (.seq (.reg [⟨(some p2), none, .box (.t p0)⟩, ⟨(some p4), none, .mov (.c (.slice none 0 0))⟩] []) (.kill [p0, p4] (.seq (.reg [⟨(some p5), none, .mov (.c (.slice none 0 0))⟩] []) (.seq (.reg [⟨(some p9), none, .ld (some 7) (.t p2)⟩, ⟨(some p10), none, .clos (.func 68) [(.t p9)] []⟩, ⟨(some p6), none, .mov (.t p10)⟩] []) (.kill [p9, p10] (.seq (.seq (.reg [⟨(some p11), none, .build [(.int .i64 0), (.int .i64 0), (.int .i64 0), (.int .i64 0)] []⟩, ⟨(some p7), none, .zero [(.int .i64 0), (.int .i64 0), (.int .i64 0), (.int .i64 0)]⟩, ⟨none, none, .st 4 (.t p7) (.t p11)⟩] []) (.kill [p11] (.block 0 (.loop (.seq (.seq (.reg [⟨(some p12), none, .iad 4 1 (.t p7) (.c (.int .i64 0))⟩, ⟨(some p13), none, .ld none (.t p12)⟩, ⟨(some p14), none, .mov (.t p1)⟩, ⟨(some p15), none, .bin .neq (.t p13) (.t p14)⟩, ⟨(some p16), none, .mov (.t p15)⟩, ⟨(some p17), (some (p16, true)), .iad 4 1 (.t p7) (.c (.int .i64 1))⟩, ⟨(some p18), (some (p16, true)), .ld none (.t p17)⟩, ⟨(some p19), (some (p16, true)), .mov (.t p1)⟩, ⟨(some p20), (some (p16, true)), .bin .neq (.t p18) (.t p19)⟩, ⟨(some p21), none, .pick (.t p16) (.t p20) (.c (.bool false))⟩] []) (.kill [p12, p13, p14, p15, p16, p17, p18, p19, p20] (.cond (.t p21) .skip (.exit 0)))) (.kill [p21] (.seq (.block 1 (.seq (.reg [⟨(some p22), none, .mov (.t p6)⟩, ⟨(some p23), none, .ld (some 4) (.t p7)⟩, ⟨(some p24), none, .call (.t p22) [(.t p23)]⟩, ⟨(some p8), none, .zero [(.int .i64 0), (.int .i64 0)]⟩, ⟨none, none, .st 2 (.t p8) (.t p24)⟩] []) (.kill [p22, p23, p24] (.seq (.reg [⟨(some p25), none, .mov (.t p5)⟩, ⟨(some p26), none, .fad 0 (.t p8)⟩, ⟨(some p27), none, .ld none (.t p26)⟩, ⟨(some p28), none, .fad 1 (.t p8)⟩, ⟨(some p29), none, .ld none (.t p28)⟩, ⟨(some p30), none, .build [(.int .i64 0), (.int .i64 0)] [(0, 1, (.t p27)), (1, 1, (.t p29))]⟩, ⟨(some p31), none, .bslice 1 2 [(.int .i64 0), (.int .i64 0)] [(0, 2, (.t p30))]⟩, ⟨(some p32), none, .app 2 (.t p25) (.t p31)⟩, ⟨(some p5), none, .mov (.t p32)⟩] []) (.kill [p25, p26, p27, p28, p29, p30, p31, p32] (.reg [⟨(some p33), none, .ld (some 2) (.t p8)⟩, ⟨(some p34), none, .fad 0 (.t p2)⟩, ⟨(some p35), none, .ld (some 4) (.t p7)⟩, ⟨(some p36), none, .call (.c (.func (.func 62) #[] #[])) [(.t p33), (.t p34), (.t p35)]⟩, ⟨none, none, .st 4 (.t p7) (.t p36)⟩] [])))))) (.kill [p8, p33, p34, p35, p36] (.seq (.reg [⟨(some p37), none, .ld (some 4) (.t p7)⟩] []) (.kill [p7] (.reg [⟨(some p7), none, .zero [(.int .i64 0), (.int .i64 0), (.int .i64 0), (.int .i64 0)]⟩, ⟨none, none, .st 4 (.t p7) (.t p37)⟩] []))))))))))) (.kill [p1, p2, p6, p7, p21] (.seq (.reg [⟨(some p38), none, .mov (.t p5)⟩, ⟨(some p4), none, .mov (.t p38)⟩] []) .ret)))))))) }
def a57 : AFunc := { params := [p0], init := i25, results := [.tmp p2], body := (.seq (.reg [⟨(some p2), none, .mov (.c (.int .i64 0))⟩] []) (.kill [p2] (.seq (.seq (.reg [⟨(some p5), none, .mov (.t p0)⟩, ⟨(some p6), none, .len 1 (.t p5)⟩, ⟨(some p7), none, .bin .lss (.t p6) (.c (.int .i64 1))⟩] []) (.kill [p5, p6] (.cond (.t p7) (.kill [p7] (.reg [⟨(some p8), none, .bad⟩, ⟨none, none, .bad⟩] [])) .skip))) (.kill [p7, p8] (.seq (.reg [⟨(some p9), none, .mov (.t p0)⟩, ⟨(some p10), none, .ias 1 (.t p9) (.c (.int .i64 0))⟩, ⟨(some p11), none, .ld none (.t p10)⟩, ⟨(some p3), none, .mov (.t p11)⟩] []) (.kill [p9, p10, p11] (.seq (.seq (.reg [⟨(some p4), none, .mov (.c (.int .i64 1))⟩] []) (.block 0 (.loop (.seq (.seq (.reg [⟨(some p12), none, .mov (.t p4)⟩, ⟨(some p13), none, .mov (.t p0)⟩, ⟨(some p14), none, .len 1 (.t p13)⟩, ⟨(some p15), none, .bin .lss (.t p12) (.t p14)⟩] []) (.kill [p12, p13, p14] (.cond (.t p15) .skip (.exit 0)))) (.kill [p15] (.seq (.block 1 (.reg [⟨(some p18), none, .mov (.t p3)⟩, ⟨(some p19), none, .mov (.t p0)⟩, ⟨(some p20), none, .mov (.t p4)⟩, ⟨(some p21), none, .ias 1 (.t p19) (.t p20)⟩, ⟨(some p22), none, .ld none (.t p21)⟩, ⟨(some p23), none, .max (.t p18) [(.t p22)]⟩, ⟨(some p3), none, .mov (.t p23)⟩] [])) (.kill [p18, p19, p20, p21, p22, p23] (.reg [⟨(some p16), none, .mov (.t p4)⟩, ⟨(some p17), none, .bin .add (.t p16) (.c (.int .i64 1))⟩, ⟨(some p4), none, .mov (.t p17)⟩] [])))))))) (.kill [p0, p4, p15] (.seq (.reg [⟨(some p24), none, .mov (.t p3)⟩, ⟨(some p2), none, .mov (.t p24)⟩] []) .ret))))))))) }
def a58 : AFunc := { params := [p0], init := i20, results := [.tmp p2], body := (.seq (.reg [⟨(some p2), none, .mov (.c (.int .i64 0))⟩] []) (.kill [p2] (.seq (.reg [⟨(some p3), none, .mov (.c (.int .i64 0))⟩] []) (.seq (.seq (.reg [⟨(some p6), none, .mov (.t p0)⟩, ⟨(some p7), none, .len 1 (.t p6)⟩, ⟨(some p8), none, .mov (.c (.int .i64 0))⟩] []) (.kill [p0] (.block 0 (.loop (.seq (.reg [⟨(some p9), none, .bin .lss (.t p8) (.t p7)⟩] []) (.seq (.cond (.t p9) .skip (.exit 0)) (.kill [p9] (.seq (.block 1 (.seq (.reg [⟨(some p10), none, .ias 1 (.t p6) (.t p8)⟩, ⟨(some p11), none, .ld none (.t p10)⟩, ⟨(some p5), none, .mov (.t p11)⟩] []) (.kill [p10, p11] (.block 2 (.loop (.seq (.seq (.reg [⟨(some p12), none, .mov (.t p5)⟩, ⟨(some p13), none, .bin .neq (.t p12) (.c (.int .i64 0))⟩] []) (.kill [p12] (.cond (.t p13) .skip (.exit 2)))) (.kill [p13] (.block 3 (.reg [⟨(some p14), none, .mov (.t p5)⟩, ⟨(some p15), none, .mov (.t p3)⟩, ⟨(some p16), none, .mov (.t p5)⟩, ⟨(some p17), none, .bin .rem (.t p15) (.t p16)⟩, ⟨(some p3), none, .mov (.t p14)⟩, ⟨(some p5), none, .mov (.t p17)⟩] []))))))))) (.kill [p5, p13] (.reg [⟨(some p18), none, .bin .add (.t p8) (.c (.int .i64 1))⟩, ⟨(some p8), none, .mov (.t p18)⟩] [])))))))))) (.kill [p6, p7, p8, p9, p13] (.seq (.reg [⟨(some p19), none, .mov (.t p3)⟩, ⟨(some p2), none, .mov (.t p19)⟩] []) .ret)))))) }
def a59 : AFunc := { params := [p0, p1], init := i34, results := [.tmp p4, .tmp p5, .tmp p6], body := (.seq (.reg [⟨(some p3), none, .box (.t p1)⟩, ⟨(some p4), none, .mov (.c (.slice none 0 0))⟩, ⟨(some p5), none, .mov (.c (.bool false))⟩, ⟨(some p6), none, .mov (.c (.int .i64 0))⟩] []) (.kill [p1, p4, p5, p6] (.seq (.reg [⟨(some p12), none, .mov (.t p0)⟩, ⟨(some p13), none, .call (.c (.func (.func 46) #[] #[])) [(.t p12), (.c (.bool false)), (.c (.slice none 0 0))]⟩, ⟨(some p11), none, .mov (.t p13)⟩, ⟨(some p14), none, .ext 0 (.t p11)⟩, ⟨(some p15), none, .ext 1 (.t p11)⟩, ⟨(some p7), none, .zero [(.pointer none)]⟩, ⟨none, none, .st 1 (.t p7) (.t p14)⟩, ⟨(some p8), none, .mov (.t p15)⟩] []) (.kill [p0, p11, p12, p13, p14, p15] (.seq (.seq (.reg [⟨(some p16), none, .mov (.t p8)⟩, ⟨(some p17), none, .bin .neq (.t p16) (.c (.int .i64 0))⟩] []) (.kill [p16] (.cond (.t p17) (.kill [p17] (.seq (.reg [⟨(some p18), none, .mov (.t p8)⟩, ⟨(some p4), none, .mov (.c (.slice none 0 0))⟩, ⟨(some p5), none, .mov (.c (.bool false))⟩, ⟨(some p6), none, .mov (.t p18)⟩] []) .ret)) .skip))) (.kill [p17] (.seq (.seq (.reg [⟨(some p19), none, .ld none (.t p3)⟩, ⟨(some p20), none, .bin .lss (.t p19) (.c (.int .i64 0))⟩, ⟨(some p21), none, .mov (.t p20)⟩, ⟨(some p22), (some (p21, false)), .ld none (.t p3)⟩, ⟨(some p23), (some (p21, false)), .bin .gtr (.t p22) (.c (.int .i64 12))⟩, ⟨(some p24), none, .pick (.t p21) (.c (.bool true)) (.t p23)⟩] []) (.kill [p19, p20, p21, p22, p23] (.cond (.t p24) (.kill [p24] (.seq (.reg [⟨(some p4), none, .mov (.c (.slice none 0 0))⟩, ⟨(some p5), none, .mov (.c (.bool false))⟩, ⟨(some p6), none, .mov (.c (.int .i64 1))⟩] []) .ret)) .skip))) (.kill [p24] (.seq (.reg [⟨(some p26), none, .ld none (.t p7)⟩, ⟨(some p27), none, .build [(.int .i64 0), (.int .i64 0), (.int .i64 0), (.int .i64 0)] []⟩, ⟨(some p28), none, .clos (.func 69) [] [(.t p7), (.t p3)]⟩, ⟨(some p29), none, .call (.c (.func (.func 51) #[] #[])) [(.t p26), (.t p27), (.t p28)]⟩, ⟨(some p25), none, .mov (.t p29)⟩, ⟨(some p30), none, .ext 0 (.t p25)⟩, ⟨(some p31), none, .ext 1 (.t p25)⟩, ⟨(some p9), none, .mov (.t p30)⟩, ⟨(some p10), none, .mov (.t p31)⟩] []) (.kill [p3, p7, p25, p26, p27, p28, p29, p30, p31] (.seq (.reg [⟨(some p32), none, .mov (.t p9)⟩, ⟨(some p33), none, .mov (.t p10)⟩, ⟨(some p4), none, .mov (.t p32)⟩, ⟨(some p5), none, .mov (.t p33)⟩, ⟨(some p6), none, .mov (.c (.int .i64 0))⟩] []) .ret))))))))))) }
def a61 : AFunc := { params := [p0, p1], init := i41, results := [.tmp p4], body := (.seq (.reg [⟨(some p2), none, .box (.t p0)⟩, ⟨(some p3), none, .box (.t p1)⟩, ⟨(some p4), none, .mov (.c (.bool false))⟩] []) (.kill [p0, p1, p4] (.seq (.reg [⟨(some p6), none, .clos (.func 72) [] [(.t p3)]⟩, ⟨(some p5), none, .mov (.t p6)⟩] []) (.kill [p6] (.seq (.reg [⟨(some p7), none, .mov (.t p5)⟩, ⟨(some p8), none, .fad 0 (.t p2)⟩, ⟨(some p9), none, .ld none (.t p8)⟩, ⟨(some p10), none, .call (.t p7) [(.t p9)]⟩, ⟨(some p11), none, .mov (.t p10)⟩, ⟨(some p12), (some (p11, true)), .mov (.t p5)⟩, ⟨(some p13), (some (p11, true)), .fad 1 (.t p2)⟩, ⟨(some p14), (some (p11, true)), .ld none (.t p13)⟩, ⟨(some p15), (some (p11, true)), .call (.t p12) [(.t p14)]⟩, ⟨(some p16), none, .pick (.t p11) (.t p15) (.c (.bool false))⟩, ⟨(some p17), none, .mov (.t p16)⟩, ⟨(some p18), (some (p17, true)), .fad 0 (.t p2)⟩, ⟨(some p19), (some (p17, true)), .ld none (.t p18)⟩, ⟨(some p20), (some (p17, true)), .fad 1 (.t p2)⟩, ⟨(some p21), (some (p17, true)), .ld none (.t p20)⟩, ⟨(some p22), (some (p17, true)), .bin .neq (.t p19) (.t p21)⟩, ⟨(some p23), none, .pick (.t p17) (.t p22) (.c (.bool false))⟩, ⟨(some p24), none, .mov (.t p23)⟩, ⟨(some p25), (some (p24, true)), .ld none (.t p3)⟩, ⟨(some p26), (some (p24, true)), .nilchk (.t p25)⟩, ⟨(some p27), (some (p24, true)), .fad 5 (.t p26)⟩, ⟨(some p28), (some (p24, true)), .ld none (.t p27)⟩, ⟨(some p29), (some (p24, true)), .un .not (.t p28)⟩, ⟨(some p30), (some (p24, true)), .mov (.t p29)⟩, ⟨(some p31), (some (p30, false)), .fad 0 (.t p2)⟩, ⟨(some p32), (some (p30, false)), .ld none (.t p31)⟩, ⟨(some p33), (some (p30, false)), .bin .neq (.t p32) (.c (.int .i64 (-1)))⟩, ⟨(some p34), (some (p30, false)), .mov (.t p33)⟩, ⟨(some p35), (some (p34, true)), .fad 1 (.t p2)⟩, ⟨(some p36), (some (p34, true)), .ld none (.t p35)⟩, ⟨(some p37), (some (p34, true)), .bin .neq (.t p36) (.c (.int .i64 (-1)))⟩, ⟨(some p38), (some (p30, false)), .pick (.t p34) (.t p37) (.c (.bool false))⟩, ⟨(some p39), (some (p24, true)), .pick (.t p30) (.c (.bool true)) (.t p38)⟩, ⟨(some p40), none, .pick (.t p24) (.t p39) (.c (.bool false))⟩, ⟨(some p4), none, .mov (.t p40)⟩] []) .ret))))) }
def a62 : AFunc := { params := [p0, p1, p2], init := i61, results := [.cell (some 4) p6], body := (.seq (.reg [⟨(some p3), none, .box (.t p0)⟩, ⟨(some p5), none, .box (.t p2)⟩, ⟨(some p6), none, .zero [(.int .i64 0), (.int .i64 0), (.int .i64 0), (.int .i64 0)]⟩] []) (.kill [p0, p2] (.seq (.block 0 (.seq (.reg [⟨(some p40), none, .fad 0 (.t p3)⟩, ⟨(some p41), none, .ld none (.t p40)⟩, ⟨(some p42), none, .bin .eql (.c (.int .i64 (-1))) (.t p41)⟩, ⟨(some p39), none, .mov (.t p42)⟩] []) (.kill [p40, p41, p42] (.cond (.t p39) (.kill [p39] (.reg [⟨(some p43), none, .fad 1 (.t p3)⟩, ⟨(some p44), none, .ld none (.t p43)⟩, ⟨(some p45), none, .mov (.t p1)⟩, ⟨(some p46), none, .fad 1 (.t p3)⟩, ⟨(some p47), none, .ld none (.t p46)⟩, ⟨(some p48), none, .nilchk (.t p45)⟩, ⟨(some p49), none, .fad 1 (.t p48)⟩, ⟨(some p50), none, .iad 4 1 (.t p49) (.t p47)⟩, ⟨(some p51), none, .ld none (.t p50)⟩, ⟨(some p52), none, .iad 4 1 (.t p5) (.t p44)⟩, ⟨none, none, .st 1 (.t p52) (.t p51)⟩] [])) (.kill [p39] (.seq (.reg [⟨(some p54), none, .fad 1 (.t p3)⟩, ⟨(some p55), none, .ld none (.t p54)⟩, ⟨(some p56), none, .bin .eql (.c (.int .i64 (-1))) (.t p55)⟩, ⟨(some p53), none, .mov (.t p56)⟩] []) (.kill [p54, p55, p56] (.cond (.t p53) (.kill [p53] (.reg [⟨(some p57), none, .fad 0 (.t p3)⟩, ⟨(some p58), none, .ld none (.t p57)⟩, ⟨(some p59), none, .iad 4 1 (.t p5) (.t p58)⟩, ⟨none, none, .st 1 (.t p59) (.c (.int .i64 0))⟩] [])) (.kill [p53] (.seq (.reg [⟨(some p8), none, .fad 0 (.t p3)⟩, ⟨(some p9), none, .ld none (.t p8)⟩, ⟨(some p10), none, .iad 4 1 (.t p5) (.t p9)⟩, ⟨(some p11), none, .ld none (.t p10)⟩, ⟨(some p12), none, .mov (.t p1)⟩, ⟨(some p13), none, .fad 1 (.t p3)⟩, ⟨(some p14), none, .ld none (.t p13)⟩, ⟨(some p15), none, .nilchk (.t p12)⟩, ⟨(some p16), none, .fad 1 (.t p15)⟩, ⟨(some p17), none, .iad 4 1 (.t p16) (.t p14)⟩, ⟨(some p18), none, .ld none (.t p17)⟩, ⟨(some p19), none, .fad 1 (.t p3)⟩, ⟨(some p20), none, .ld none (.t p19)⟩, ⟨(some p21), none, .iad 4 1 (.t p5) (.t p20)⟩, ⟨(some p22), none, .ld none (.t p21)⟩, ⟨(some p23), none, .bin .sub (.t p18) (.t p22)⟩, ⟨(some p24), none, .min (.t p11) [(.t p23)]⟩, ⟨(some p7), none, .mov (.t p24)⟩] []) (.kill [p1, p8, p9, p10, p11, p12, p13, p14, p15, p16, p17, p18, p19, p20, p21, p22, p23, p24] (.seq (.reg [⟨(some p25), none, .fad 0 (.t p3)⟩, ⟨(some p26), none, .ld none (.t p25)⟩, ⟨(some p27), none, .iad 4 1 (.t p5) (.t p26)⟩, ⟨(some p28), none, .ld none (.t p27)⟩, ⟨(some p29), none, .mov (.t p7)⟩, ⟨(some p30), none, .bin .sub (.t p28) (.t p29)⟩, ⟨(some p31), none, .iad 4 1 (.t p5) (.t p26)⟩, ⟨none, none, .st 1 (.t p31) (.t p30)⟩] []) (.kill [p25, p26, p27, p28, p29, p30, p31] (.reg [⟨(some p32), none, .fad 1 (.t p3)⟩, ⟨(some p33), none, .ld none (.t p32)⟩, ⟨(some p34), none, .iad 4 1 (.t p5) (.t p33)⟩, ⟨(some p35), none, .ld none (.t p34)⟩, ⟨(some p36), none, .mov (.t p7)⟩, ⟨(some p37), none, .bin .add (.t p35) (.t p36)⟩, ⟨(some p38), none, .iad 4 1 (.t p5) (.t p33)⟩, ⟨none, none, .st 1 (.t p38) (.t p37)⟩] [])))))))))))))) (.kill [p1, p3, p7, p32, p33, p34, p35, p36, p37, p38, p39, p43, p44, p45, p46, p47, p48, p49, p50, p51, p52, p53, p57, p58, p59] (.seq (.reg [⟨(some p60), none, .ld (some 4) (.t p5)⟩, ⟨none, none, .st 4 (.t p6) (.t p60)⟩] []) .ret))))) }
def a63 : AFunc := { params := [p0], init := i8, results := [.tmp p2], body := (.seq (.reg [⟨(some p2), none, .mov (.c (.slice none 0 0))⟩] []) (.kill [p2] (.seq (.seq (.reg [⟨(some p3), none, .mov (.t p0)⟩, ⟨(some p4), none, .eqs (.slice) false (.t p3) (.c (.slice none 0 0))⟩] []) (.kill [p3] (.cond (.t p4) (.kill [p4] (.seq (.reg [⟨(some p2), none, .mov (.c (.slice none 0 0))⟩] []) .ret)) .skip))) (.kill [p4] (.seq (.reg [⟨(some p5), none, .bslice 0 1 [(.int .i64 0)] []⟩, ⟨(some p6), none, .mov (.t p0)⟩, ⟨(some p7), none, .app 1 (.t p5) (.t p6)⟩, ⟨(some p2), none, .mov (.t p7)⟩] []) .ret))))) }
def a64 : AFunc := { params := [p0], init := i25, results := [.tmp p2], body := (.seq (.reg [⟨(some p2), none, .mov (.c (.int .i64 0))⟩] []) (.kill [p2] (.seq (.seq (.reg [⟨(some p5), none, .mov (.t p0)⟩, ⟨(some p6), none, .len 1 (.t p5)⟩, ⟨(some p7), none, .bin .lss (.t p6) (.c (.int .i64 1))⟩] []) (.kill [p5, p6] (.cond (.t p7) (.kill [p7] (.reg [⟨(some p8), none, .bad⟩, ⟨none, none, .bad⟩] [])) .skip))) (.kill [p7, p8] (.seq (.reg [⟨(some p9), none, .mov (.t p0)⟩, ⟨(some p10), none, .ias 1 (.t p9) (.c (.int .i64 0))⟩, ⟨(some p11), none, .ld none (.t p10)⟩, ⟨(some p3), none, .mov (.t p11)⟩] []) (.kill [p9, p10, p11] (.seq (.seq (.reg [⟨(some p4), none, .mov (.c (.int .i64 1))⟩] []) (.block 0 (.loop (.seq (.seq (.reg [⟨(some p12), none, .mov (.t p4)⟩, ⟨(some p13), none, .mov (.t p0)⟩, ⟨(some p14), none, .len 1 (.t p13)⟩, ⟨(some p15), none, .bin .lss (.t p12) (.t p14)⟩] []) (.kill [p12, p13, p14] (.cond (.t p15) .skip (.exit 0)))) (.kill [p15] (.seq (.block 1 (.reg [⟨(some p18), none, .mov (.t p3)⟩, ⟨(some p19), none, .mov (.t p0)⟩, ⟨(some p20), none, .mov (.t p4)⟩, ⟨(some p21), none, .ias 1 (.t p19) (.t p20)⟩, ⟨(some p22), none, .ld none (.t p21)⟩, ⟨(some p23), none, .min (.t p18) [(.t p22)]⟩, ⟨(some p3), none, .mov (.t p23)⟩] [])) (.kill [p18, p19, p20, p21, p22, p23] (.reg [⟨(some p16), none, .mov (.t p4)⟩, ⟨(some p17), none, .bin .add (.t p16) (.c (.int .i64 1))⟩, ⟨(some p4), none, .mov (.t p17)⟩] [])))))))) (.kill [p0, p4, p15] (.seq (.reg [⟨(some p24), none, .mov (.t p3)⟩, ⟨(some p2), none, .mov (.t p24)⟩] []) .ret))))))))) }
def a65 : AFunc := { params := [p0, p1, p2], init := i45, results := [], body := (.seq (.reg [⟨(some p4), none, .mov (.c (.int .i64 (-1)))⟩] []) (.block 0 (.loop (.seq (.seq (.reg [⟨(some p8), none, .mov (.t p4)⟩, ⟨(some p9), none, .ld none (.t p1)⟩, ⟨(some p10), none, .nilchk (.t p9)⟩, ⟨(some p11), none, .fad 0 (.t p10)⟩, ⟨(some p12), none, .ld none (.t p11)⟩, ⟨(some p13), none, .bin .lss (.t p8) (.t p12)⟩] []) (.kill [p8, p9, p10, p11, p12] (.cond (.t p13) .skip (.exit 0)))) (.kill [p13] (.seq (.block 1 (.seq (.reg [⟨(some p5), none, .mov (.c (.int .i64 (-1)))⟩] []) (.block 2 (.loop (.seq (.seq (.reg [⟨(some p16), none, .mov (.t p5)⟩, ⟨(some p17), none, .ld none (.t p1)⟩, ⟨(some p18), none, .nilchk (.t p17)⟩, ⟨(some p19), none, .fad 0 (.t p18)⟩, ⟨(some p20), none, .ld none (.t p19)⟩, ⟨(some p21), none, .bin .lss (.t p16) (.t p20)⟩] []) (.kill [p16, p17, p18, p19, p20] (.cond (.t p21) .skip (.exit 2)))) (.kill [p21] (.seq (.block 3 (.seq (.reg [⟨(some p24), none, .mov (.t p4)⟩, ⟨(some p25), none, .mov (.t p5)⟩, ⟨(some p26), none, .build [(.int .i64 0), (.int .i64 0)] [(0, 1, (.t p24)), (1, 1, (.t p25))]⟩, ⟨(some p6), none, .zero [(.int .i64 0), (.int .i64 0)]⟩, ⟨none, none, .st 2 (.t p6) (.t p26)⟩] []) (.kill [p24, p25, p26] (.seq (.seq (.reg [⟨(some p27), none, .ld (some 2) (.t p6)⟩, ⟨(some p28), none, .ld none (.t p1)⟩, ⟨(some p29), none, .call (.c (.func (.func 61) #[] #[])) [(.t p27), (.t p28)]⟩, ⟨(some p30), none, .un .not (.t p29)⟩] []) (.kill [p27, p28, p29] (.cond (.t p30) (.exit 3) .skip))) (.kill [p30] (.seq (.reg [⟨(some p31), none, .ld (some 2) (.t p6)⟩, ⟨(some p32), none, .ld none (.t p1)⟩, ⟨(some p33), none, .ld (some 4) (.t p2)⟩, ⟨(some p34), none, .call (.c (.func (.func 62) #[] #[])) [(.t p31), (.t p32), (.t p33)]⟩, ⟨(some p7), none, .zero [(.int .i64 0), (.int .i64 0), (.int .i64 0), (.int .i64 0)]⟩, ⟨none, none, .st 4 (.t p7) (.t p34)⟩] []) (.kill [p31, p32, p33, p34] (.seq (.reg [⟨(some p35), none, .ld (some 4) (.t p7)⟩, ⟨(some p36), none, .ld (some 4) (.t p2)⟩, ⟨(some p37), none, .eqs (.cells [.int, .int, .int, .int]) true (.t p35) (.t p36)⟩, ⟨(some p38), none, .mov (.t p37)⟩, ⟨(some p39), (some (p38, true)), .mov (.t p0)⟩, ⟨(some p40), (some (p38, true)), .ld (some 2) (.t p6)⟩, ⟨(some p41), (some (p38, true)), .ld (some 4) (.t p7)⟩, ⟨(some p42), (some (p38, true)), .call (.t p39) [(.t p40), (.t p41)]⟩, ⟨(some p43), (some (p38, true)), .un .not (.t p42)⟩, ⟨(some p44), none, .pick (.t p38) (.t p43) (.c (.bool false))⟩] []) (.kill [p6, p7, p35, p36, p37, p38, p39, p40, p41, p42, p43] (.cond (.t p44) .ret .skip)))))))))) (.kill [p44] (.reg [⟨(some p22), none, .mov (.t p5)⟩, ⟨(some p23), none, .bin .add (.t p22) (.c (.int .i64 1))⟩, ⟨(some p5), none, .mov (.t p23)⟩] []))))))))) (.kill [p5, p21, p30] (.reg [⟨(some p14), none, .mov (.t p4)⟩, ⟨(some p15), none, .bin .add (.t p14) (.c (.int .i64 1))⟩, ⟨(some p4), none, .mov (.t p15)⟩] [])))))))) }
def a66 : AFunc := { params := [p0, p1, p2], init := i66, results := [.tmp p6, .cell (some 4) p7, .tmp p8], body := (.seq (.reg [⟨(some p4), none, .box (.t p1)⟩, ⟨(some p6), none, .mov (.c (.map none))⟩, ⟨(some p7), none, .zero [(.int .i64 0), (.int .i64 0), (.int .i64 0), (.int .i64 0)]⟩, ⟨(some p8), none, .mov (.c (.bool false))⟩] []) (.kill [p1, p6, p8] (.kill [] (.seq (.reg [⟨(some p18), none, .mkmap⟩, ⟨(some p19), none, .ld (some 4) (.t p4)⟩, ⟨(some p20), none, .build [(.int .i64 0), (.int .i64 0), (.int .i64 0), (.int .i64 0), (.int .i64 0), (.int .i64 0), (.int .i64 0)] []⟩, ⟨none, none, .mset [.int, .int, .int, .int] (.t p18) (.t p19) (.t p20)⟩, ⟨(some p21), none, .mov (.t p18)⟩, ⟨(some p9), none, .zero [(.map none)]⟩, ⟨none, none, .st 1 (.t p9) (.t p21)⟩] []) (.kill [p18, p19, p20, p21] (.seq (.reg [⟨(some p22), none, .ld (some 4) (.t p4)⟩, ⟨(some p23), none, .bslice 1 4 [(.int .i64 0), (.int .i64 0), (.int .i64 0), (.int .i64 0)] [(0, 4, (.t p22))]⟩, ⟨(some p10), none, .zero [(.slice none 0 0)]⟩, ⟨none, none, .st 1 (.t p10) (.t p23)⟩] []) (.kill [p4, p22, p23] (.seq (.reg [⟨(some p11), none, .zero [(.int .i64 0), (.int .i64 0), (.int .i64 0), (.int .i64 0)]⟩] []) (.seq (.reg [⟨(some p12), none, .mov (.c (.bool false))⟩] []) (.seq .skip (.seq (.block 0 (.loop (.seq (.seq (.reg [⟨(some p24), none, .ld none (.t p10)⟩, ⟨(some p25), none, .len 1 (.t p24)⟩, ⟨(some p26), none, .bin .gtr (.t p25) (.c (.int .i64 0))⟩] []) (.kill [p24, p25] (.cond (.t p26) .skip (.exit 0)))) (.kill [p26] (.block 1 (.seq (.reg [⟨(some p27), none, .ld none (.t p10)⟩, ⟨(some p28), none, .ias 4 (.t p27) (.c (.int .i64 0))⟩, ⟨(some p29), none, .ld (some 4) (.t p28)⟩, ⟨(some p13), none, .zero [(.int .i64 0), (.int .i64 0), (.int .i64 0), (.int .i64 0)]⟩, ⟨none, none, .st 4 (.t p13) (.t p29)⟩] []) (.kill [p27, p28, p29] (.seq (.reg [⟨(some p30), none, .ld none (.t p10)⟩, ⟨(some p31), none, .slsl 4 (.t p30) (some (.c (.int .i64 1))) none none⟩, ⟨none, none, .st 1 (.t p10) (.t p31)⟩] []) (.kill [p30, p31] (.seq (.seq (.reg [⟨(some p32), none, .mov (.t p2)⟩, ⟨(some p33), none, .ld (some 4) (.t p13)⟩, ⟨(some p34), none, .call (.t p32) [(.t p33)]⟩] []) (.kill [p32, p33] (.cond (.t p34) (.kill [p34] (.seq (.reg [⟨(some p35), none, .ld (some 4) (.t p13)⟩, ⟨none, none, .st 4 (.t p11) (.t p35)⟩, ⟨(some p12), none, .mov (.c (.bool true))⟩] []) (.kill [p13, p35] (.exit 0)))) .skip))) (.kill [p34] (.seq (.reg [⟨(some p36), none, .mov (.t p0)⟩, ⟨(some p37), none, .ld (some 4) (.t p13)⟩, ⟨(some p38), none, .call (.c (.func (.func 47) #[] #[])) [(.t p36), (.t p37)]⟩] []) (.kill [p36, p37] (.block 2 (.rangeF (.t p38) [p39, p40] (.seq (.reg [⟨(some p14), none, .zero [(.int .i64 0), (.int .i64 0)]⟩, ⟨none, none, .st 2 (.t p14) (.t p39)⟩] []) (.reg [⟨(some p15), none, .zero [(.int .i64 0), (.int .i64 0), (.int .i64 0), (.int .i64 0)]⟩, ⟨none, none, .st 4 (.t p15) (.t p40)⟩] [])) (.block 3 (.seq (.reg [⟨(some p42), none, .ld none (.t p9)⟩, ⟨(some p43), none, .ld (some 4) (.t p15)⟩, ⟨(some p44), none, .look true [.int, .int, .int, .int] (.agg #[(.int .i64 0), (.int .i64 0), (.int .i64 0), (.int .i64 0), (.int .i64 0), (.int .i64 0), (.int .i64 0)]) (.t p42) (.t p43)⟩, ⟨(some p41), none, .mov (.t p44)⟩, ⟨(some p45), none, .ext 0 (.t p41)⟩, ⟨(some p46), none, .ext 1 (.t p41)⟩, ⟨(some p16), none, .zero [(.int .i64 0), (.int .i64 0), (.int .i64 0), (.int .i64 0), (.int .i64 0), (.int .i64 0), (.int .i64 0)]⟩, ⟨none, none, .st 7 (.t p16) (.t p45)⟩, ⟨(some p17), none, .mov (.t p46)⟩] []) (.seq (.reg [⟨(some p47), none, .mov (.t p17)⟩, ⟨(some p48), none, .un .not (.t p47)⟩] []) (.cond (.t p48) (.seq (.reg [⟨(some p49), none, .ld none (.t p9)⟩, ⟨(some p50), none, .ld (some 4) (.t p15)⟩, ⟨(some p51), none, .ld (some 4) (.t p13)⟩, ⟨(some p52), none, .ld (some 2) (.t p14)⟩, ⟨(some p53), none, .ld none (.t p9)⟩, ⟨(some p54), none, .ld (some 4) (.t p13)⟩, ⟨(some p55), none, .look false [.int, .int, .int, .int] (.agg #[(.int .i64 0), (.int .i64 0), (.int .i64 0), (.int .i64 0), (.int .i64 0), (.int .i64 0), (.int .i64 0)]) (.t p53) (.t p54)⟩, ⟨(some p56), none, .fld none 6 (.t p55)⟩, ⟨(some p57), none, .bin .add (.t p56) (.c (.int .i64 1))⟩, ⟨(some p58), none, .build [(.int .i64 0), (.int .i64 0), (.int .i64 0), (.int .i64 0), (.int .i64 0), (.int .i64 0), (.int .i64 0)] [(0, 4, (.t p51)), (4, 2, (.t p52)), (6, 1, (.t p57))]⟩, ⟨none, none, .mset [.int, .int, .int, .int] (.t p49) (.t p50) (.t p58)⟩] []) (.reg [⟨(some p59), none, .ld none (.t p10)⟩, ⟨(some p60), none, .ld (some 4) (.t p15)⟩, ⟨(some p61), none, .bslice 1 4 [(.int .i64 0), (.int .i64 0), (.int .i64 0), (.int .i64 0)] [(0, 4, (.t p60))]⟩, ⟨(some p62), none, .app 4 (.t p59) (.t p61)⟩, ⟨none, none, .st 1 (.t p10) (.t p62)⟩] [])) .skip))))))))))))))))))) (.kill [p0, p2, p10, p14, p15, p16, p17, p26, p39, p40, p41, p42, p43, p44, p45, p46, p47, p48, p49, p50, p51, p52, p53, p54, p55, p56, p57, p58, p59, p60, p61, p62] (.seq (.reg [⟨(some p63), none, .ld none (.t p9)⟩, ⟨(some p64), none, .ld (some 4) (.t p11)⟩, ⟨(some p65), none, .mov (.t p12)⟩, ⟨(some p6), none, .mov (.t p63)⟩, ⟨none, none, .st 4 (.t p7) (.t p64)⟩, ⟨(some p8), none, .mov (.t p65)⟩] []) .ret))))))))))))) }
def a67 : AFunc := { params := [p0], init := i28, results := [], body := (.seq (.reg [⟨(some p4), none, .mov (.t p0)⟩, ⟨(some p5), none, .len 1 (.t p4)⟩, ⟨(some p6), none, .bin .sub (.t p5) (.c (.int .i64 1))⟩, ⟨(some p2), none, .mov (.c (.int .i64 0))⟩, ⟨(some p3), none, .mov (.t p6)⟩] []) (.kill [p4, p5, p6] (.block 0 (.loop (.seq (.seq (.reg [⟨(some p7), none, .mov (.t p2)⟩, ⟨(some p8), none, .mov (.t p3)⟩, ⟨(some p9), none, .bin .lss (.t p7) (.t p8)⟩] []) (.kill [p7, p8] (.cond (.t p9) .skip (.exit 0)))) (.kill [p9] (.seq (.block 1 (.reg [⟨(some p14), none, .mov (.t p0)⟩, ⟨(some p15), none, .mov (.t p2)⟩, ⟨(some p16), none, .mov (.t p0)⟩, ⟨(some p17), none, .mov (.t p3)⟩, ⟨(some p18), none, .mov (.t p0)⟩, ⟨(some p19), none, .mov (.t p3)⟩, ⟨(some p20), none, .ias 2 (.t p18) (.t p19)⟩, ⟨(some p21), none, .ld (some 2) (.t p20)⟩, ⟨(some p22), none, .mov (.t p0)⟩, ⟨(some p23), none, .mov (.t p2)⟩, ⟨(some p24), none, .ias 2 (.t p22) (.t p23)⟩, ⟨(some p25), none, .ld (some 2) (.t p24)⟩, ⟨(some p26), none, .ias 2 (.t p14) (.t p15)⟩, ⟨none, none, .st 2 (.t p26) (.t p21)⟩, ⟨(some p27), none, .ias 2 (.t p16) (.t p17)⟩, ⟨none, none, .st 2 (.t p27) (.t p25)⟩] [])) (.kill [p14, p15, p16, p17, p18, p19, p20, p21, p22, p23, p24, p25, p26, p27] (.reg [⟨(some p10), none, .mov (.t p2)⟩, ⟨(some p11), none, .bin .add (.t p10) (.c (.int .i64 1))⟩, ⟨(some p12), none, .mov (.t p3)⟩, ⟨(some p13), none, .bin .sub (.t p12) (.c (.int .i64 1))⟩, ⟨(some p2), none, .mov (.t p11)⟩, ⟨(some p3), none, .mov (.t p13)⟩] []))))))))) }
def a68 : AFunc := { params := [p0, p1], init := i34, results := [.cell (some 2) p4], body := (.seq (.reg [⟨(some p2), none, .box (.t p0)⟩, ⟨(some p3), none, .box (.t p1)⟩, ⟨(some p4), none, .zero [(.int .i64 0), (.int .i64 0)]⟩] []) (.kill [p0, p1] (.seq (.reg [⟨(some p6), none, .fad 6 (.t p2)⟩, ⟨(some p7), none, .ld none (.t p6)⟩, ⟨(some p8), none, .bin .sub (.c (.int .i64 1)) (.t p7)⟩, ⟨(some p5), none, .mov (.t p8)⟩] []) (.kill [p6, p7, p8] (.seq (.block 0 (.seq (.reg [⟨(some p10), none, .mov (.t p5)⟩, ⟨(some p11), none, .iad 4 1 (.t p3) (.t p10)⟩, ⟨(some p12), none, .ld none (.t p11)⟩, ⟨(some p13), none, .mov (.t p5)⟩, ⟨(some p14), none, .fad 0 (.t p2)⟩, ⟨(some p15), none, .fad 1 (.t p14)⟩, ⟨(some p16), none, .iad 4 1 (.t p15) (.t p13)⟩, ⟨(some p17), none, .ld none (.t p16)⟩, ⟨(some p18), none, .bin .eql (.t p12) (.t p17)⟩, ⟨(some p9), none, .mov (.t p18)⟩] []) (.kill [p10, p11, p12, p13, p14, p15, p16, p17, p18] (.cond (.t p9) (.kill [p9] (.seq (.reg [⟨(some p19), none, .mov (.t p5)⟩, ⟨(some p20), none, .build [(.int .i64 0), (.int .i64 0)] [(0, 1, (.t p19)), (1, 1, (.c (.int .i64 (-1))))]⟩, ⟨none, none, .st 2 (.t p4) (.t p20)⟩] []) .ret)) (.kill [p9] (.seq (.reg [⟨(some p22), none, .fad 6 (.t p2)⟩, ⟨(some p23), none, .ld none (.t p22)⟩, ⟨(some p24), none, .iad 4 1 (.t p3) (.t p23)⟩, ⟨(some p25), none, .ld none (.t p24)⟩, ⟨(some p26), none, .bin .eql (.t p25) (.c (.int .i64 0))⟩, ⟨(some p21), none, .mov (.t p26)⟩] []) (.kill [p3, p22, p23, p24, p25, p26] (.cond (.t p21) (.kill [p21] (.seq (.reg [⟨(some p27), none, .fad 6 (.t p2)⟩, ⟨(some p28), none, .ld none (.t p27)⟩, ⟨(some p29), none, .build [(.int .i64 0), (.int .i64 0)] [(0, 1, (.c (.int .i64 (-1)))), (1, 1, (.t p28))]⟩, ⟨none, none, .st 2 (.t p4) (.t p29)⟩] []) .ret)) .skip)))))))) (.kill [p9, p21] (.seq (.reg [⟨(some p30), none, .fad 6 (.t p2)⟩, ⟨(some p31), none, .ld none (.t p30)⟩, ⟨(some p32), none, .mov (.t p5)⟩, ⟨(some p33), none, .build [(.int .i64 0), (.int .i64 0)] [(0, 1, (.t p31)), (1, 1, (.t p32))]⟩, ⟨none, none, .st 2 (.t p4) (.t p33)⟩] []) .ret))))))) }
def a69 : AFunc := { params := [p0, p1, p2], init := i12, results := [.tmp p4], body := (.seq (.reg [⟨(some p3), none, .box (.t p0)⟩, ⟨(some p4), none, .mov (.c (.bool false))⟩] []) (.kill [p0, p4] (.seq (.reg [⟨(some p5), none, .ld none (.t p1)⟩, ⟨(some p6), none, .nilchk (.t p5)⟩, ⟨(some p7), none, .fad 0 (.t p6)⟩, ⟨(some p8), none, .ld none (.t p7)⟩, ⟨(some p9), none, .slarr 4 1 (.t p3) none (some (.t p8)) none⟩, ⟨(some p10), none, .ld none (.t p2)⟩, ⟨(some p11), none, .call (.c (.func (.func 70) #[] #[])) [(.t p9), (.t p10)]⟩, ⟨(some p4), none, .mov (.t p11)⟩] []) .ret))) }
def a70 : AFunc := { params := [p0, p1], init := i9, results := [.tmp p4], body := (.seq (.reg [⟨(some p4), none, .mov (.c (.bool false))⟩] []) (.kill [p4] (.seq (.reg [⟨(some p5), none, .mov (.t p0)⟩, ⟨(some p6), none, .mov (.t p1)⟩, ⟨(some p7), none, .call (.c (.func (.func 73) #[] #[])) [(.t p5), (.t p6)]⟩, ⟨(some p8), none, .bin .geq (.t p7) (.c (.int .i64 0))⟩, ⟨(some p4), none, .mov (.t p8)⟩] []) .ret))) }
def a72 : AFunc := { params := [p0, p1], init := i14, results := [.tmp p3], body := (.seq (.reg [⟨(some p3), none, .mov (.c (.bool false))⟩] []) (.kill [p3] (.seq (.reg [⟨(some p4), none, .mov (.t p0)⟩, ⟨(some p5), none, .bin .geq (.t p4) (.c (.int .i64 (-1)))⟩, ⟨(some p6), none, .mov (.t p5)⟩, ⟨(some p7), (some (p6, true)), .mov (.t p0)⟩, ⟨(some p8), (some (p6, true)), .ld none (.t p1)⟩, ⟨(some p9), (some (p6, true)), .nilchk (.t p8)⟩, ⟨(some p10), (some (p6, true)), .fad 0 (.t p9)⟩, ⟨(some p11), (some (p6, true)), .ld none (.t p10)⟩, ⟨(some p12), (some (p6, true)), .bin .lss (.t p7) (.t p11)⟩, ⟨(some p13), none, .pick (.t p6) (.t p12) (.c (.bool false))⟩, ⟨(some p3), none, .mov (.t p13)⟩] []) .ret))) }
def a73 : AFunc := { params := [p0, p1], init := i19, results := [.tmp p4], body := (.seq (.reg [⟨(some p4), none, .mov (.c (.int .i64 0))⟩] []) (.kill [p4] (.seq (.seq (.reg [⟨(some p6), none, .mov (.t p0)⟩, ⟨(some p7), none, .len 1 (.t p6)⟩, ⟨(some p8), none, .mov (.c (.int .i64 0))⟩] []) (.kill [p6] (.block 0 (.loop (.seq (.reg [⟨(some p9), none, .bin .lss (.t p8) (.t p7)⟩] []) (.seq (.cond (.t p9) .skip (.exit 0)) (.kill [p9] (.seq (.block 1 (.seq (.reg [⟨(some p10), none, .mov (.t p8)⟩, ⟨(some p5), none, .mov (.t p10)⟩] []) (.kill [p10] (.seq (.reg [⟨(some p11), none, .mov (.t p1)⟩, ⟨(some p12), none, .mov (.t p0)⟩, ⟨(some p13), none, .mov (.t p5)⟩, ⟨(some p14), none, .ias 1 (.t p12) (.t p13)⟩, ⟨(some p15), none, .ld none (.t p14)⟩, ⟨(some p16), none, .bin .eql (.t p11) (.t p15)⟩] []) (.kill [p11, p12, p13, p14, p15] (.cond (.t p16) (.kill [p16] (.seq (.reg [⟨(some p17), none, .mov (.t p5)⟩, ⟨(some p4), none, .mov (.t p17)⟩] []) .ret)) .skip)))))) (.kill [p16] (.reg [⟨(some p18), none, .bin .add (.t p8) (.c (.int .i64 1))⟩, ⟨(some p8), none, .mov (.t p18)⟩] [])))))))))) (.kill [p0, p1, p7, p8, p9] (.seq (.reg [⟨(some p4), none, .mov (.c (.int .i64 (-1)))⟩] []) .ret))))) }
def tbl : Tr AFunc := (.nd none (.nd none (.nd none (.nd none (.nd none (.nd (some a31) (.nd (some a63) .lf .lf) .lf) (.nd (some a47) .lf .lf)) (.nd none (.nd none (.nd none .lf .lf) .lf) (.nd (some a55) .lf .lf))) (.nd none (.nd none (.nd none (.nd (some a67) .lf .lf) .lf) (.nd (some a51) .lf .lf)) (.nd none (.nd (some a43) .lf .lf) (.nd (some a59) .lf .lf)))) (.nd none (.nd none (.nd (some a17) (.nd (some a33) (.nd (some a65) .lf .lf) .lf) (.nd none .lf .lf)) (.nd (some a25) (.nd (some a41) (.nd (some a73) .lf .lf) .lf) (.nd (some a57) .lf .lf))) (.nd (some a13) (.nd none (.nd none (.nd (some a69) .lf .lf) .lf) (.nd (some a53) .lf .lf)) (.nd none (.nd none .lf .lf) (.nd (some a61) .lf .lf))))) (.nd none (.nd none (.nd none (.nd (some a16) (.nd none (.nd (some a64) .lf .lf) .lf) (.nd (some a48) .lf .lf)) (.nd none (.nd (some a40) (.nd (some a72) .lf .lf) .lf) (.nd none .lf .lf))) (.nd none (.nd (some a20) (.nd none (.nd (some a68) .lf .lf) .lf) (.nd (some a52) .lf .lf)) (.nd none (.nd none .lf .lf) (.nd none .lf .lf)))) (.nd none (.nd none (.nd (some a18) (.nd none (.nd (some a66) .lf .lf) .lf) (.nd none .lf .lf)) (.nd (some a26) (.nd none .lf .lf) (.nd (some a58) .lf .lf))) (.nd none (.nd (some a22) (.nd none (.nd (some a70) .lf .lf) .lf) (.nd (some a54) .lf .lf)) (.nd (some a30) (.nd (some a46) .lf .lf) (.nd (some a62) .lf .lf))))))
end
end Go.Ab.Jug

namespace Go.Ab.Jug
set_option maxRecDepth 100000
open Go.Ab.V
end Go.Ab.Jug

namespace Go.Ab.Jug
set_option maxRecDepth 1000000
noncomputable section
def cfg0 : Cfg := { fn := fun f => Tr.get tbl f, orc := fun _ _ => none, pick := fun _ => 0 }
theorem fit : Tr.allB (fitB Go.Proofs.Try.prog) tbl (fun n => n) = true := by decide +kernel
theorem tab0 : TabOK Go.Proofs.Try.prog cfg0 := tabOK (t := tbl) (fun _ _ h => h) fit
theorem mixed : Go.Proofs.Try.prog.follows .mixedOrders = true := by decide +kernel
end
end Go.Ab.Jug

namespace Go.Ab.Jug
open Go.Ab.V
set_option maxRecDepth 100000
noncomputable section
def cfg : Cfg := withOrc cfg0 20 (.bool true)
end
theorem no_orc (f : Nat) (h : f ≠ 20) (l : List Value) : cfg.orc f l = none := by
  have : Nat.beq f 20 = false := by cases hb : Nat.beq f 20 with
    | false => rfl
    | true => exact absurd (Nat.eq_of_beq_eq_true hb) h
  show (bif Nat.beq f 20 && l.isEmpty then some (Value.bool true) else none) = none
  rw [this]; rfl

theorem ints_ok (a b : List Int) (ha : a.length ≤ 9223372036854775807) : VCall cfg 33 [sl1 a, sl1 b] [] [] (vb (decide (a = b))) [] := by
  (refine VCall.mk (fn := a33) rfl rfl rfl ?_; simp only [a33, inV, mkB, nmsL, PT.set])
  (repeat (first | refine VC.seq ?_ | refine VC.block ?_ | refine VC.kill ?_ | refine VC.skip ?_ | refine VC.exit ?_ | refine VC.regA ?_ | refine VC.condT ?_ | refine VC.condF ?_))
  refine VC.condA ?_ ?_ <;> intro h <;> (simp only [decide_eq_true_eq, decide_eq_false_iff_not, bne_iff_ne, ne_eq, bne_eq_false_iff_eq, beq_iff_eq, beq_eq_false_iff_ne, Bool.not_eq_true', Bool.not_eq_false', Bool.and_eq_true, Bool.or_eq_true, Int.natCast_inj] at h)
  · (repeat (first | refine VC.seq ?_ | refine VC.block ?_ | refine VC.kill ?_ | refine VC.skip ?_ | refine VC.exit ?_ | refine VC.regA ?_ | refine VC.condT ?_ | refine VC.condF ?_))
    refine VC.ret (Fin.A ?_)
    rw [decide_eq_false (by intro e; rw [e] at h; exact h rfl)]; rfl
  · (repeat (first | refine VC.seq ?_ | refine VC.block ?_ | refine VC.kill ?_ | refine VC.skip ?_ | refine VC.exit ?_ | refine VC.regA ?_ | refine VC.condT ?_ | refine VC.condF ?_))
    have hl : a.length = b.length := by omega
    refine VC.loopG (fun (i : Nat) => ⟨inV [p0, p1, p5] [sl1 a, sl1 b, vi i] .lf, .lf, [], none⟩) (fun n i => n = a.length - i ∧ i ≤ a.length ∧ a.take i = b.take i) (x := 0) ?_ ⟨rfl, by omega, rfl⟩ ?_
    · (apply Go.Ab.V.G.weak; constructor <;> simp (config := {decide := true}) only [PT.Le, inV, mkB, PT.set, VSt.kill, VSt.adopt, VSt.alloc, PT.filt, PT.map, List.map_cons, List.map_nil, noref, norefB, deadB, deadV, nos, nm, nmL, nmB, nmE, Pa.eqb, cond_true, cond_false, Bool.not_true, Bool.not_false, Bool.and_true, Bool.true_and, nmL_vi, flV_len, flP_len, flV_nm, flV_ok, flV_pv, flP_map, drop_flP, drop_flV, putC_flV, eqV2, eqV3, bneT, bneF, decide_true, decide_false, frzL_vi, frzL_flV, nmE_ag, nmE_at, frzE_ag, frzE_at, ofAg_len, ofAt_len, atL_vi, nmL_map_p, frzL_map_p, okL_p, toPVs_p, repsZ, nmL_reps, putC_vi, get_flV0, get_flV1, Int.toNat_zero, Int.toNat_one, Int.reduceToNat, eqV_slice, eqV_ptr, eqV_func, nilS, nilP, nilF, nmL_append, true_or, or_true, and_self, true_and, and_true, Option.some.injEq, reduceCtorEq, false_or, or_false, VV.p.injEq, PV.at.injEq, Value.int.injEq, sl1, vi, bl1, vb, nilV])
    rintro n i ⟨hn, hi, he⟩
    simp only [inV, PT.set]
    (repeat (first | refine VC.seq ?_ | refine VC.block ?_ | refine VC.kill ?_ | refine VC.skip ?_ | refine VC.exit ?_ | refine VC.regA ?_ | refine VC.condT ?_ | refine VC.condF ?_))
    refine VC.condA ?_ ?_ <;> intro h <;> (simp only [decide_eq_true_eq, decide_eq_false_iff_not, bne_iff_ne, ne_eq, bne_eq_false_iff_eq, beq_iff_eq, beq_eq_false_iff_ne, Bool.not_eq_true', Bool.not_eq_false', Bool.and_eq_true, Bool.or_eq_true, Int.natCast_inj] at h)
    · have h : i < a.length := by omega
      (repeat (first | refine VC.seq ?_ | refine VC.block ?_ | refine VC.kill ?_ | refine VC.skip ?_ | refine VC.exit ?_ | refine VC.regA ?_ | refine VC.condT ?_ | refine VC.condF ?_))
      refine VC.condA ?_ ?_ <;> intro h2 <;> (simp only [decide_eq_true_eq, decide_eq_false_iff_not, bne_iff_ne, ne_eq, bne_eq_false_iff_eq, beq_iff_eq, beq_eq_false_iff_ne, Bool.not_eq_true', Bool.not_eq_false', Bool.and_eq_true, Bool.or_eq_true, Int.natCast_inj] at h2)
      · (repeat (first | refine VC.seq ?_ | refine VC.block ?_ | refine VC.kill ?_ | refine VC.skip ?_ | refine VC.exit ?_ | refine VC.regA ?_ | refine VC.condT ?_ | refine VC.condF ?_))
        refine VC.ret (Fin.A ?_)
        rw [decide_eq_false (by intro e; subst e; exact h2 rfl)]; rfl
      · (repeat (first | refine VC.seq ?_ | refine VC.block ?_ | refine VC.kill ?_ | refine VC.skip ?_ | refine VC.exit ?_ | refine VC.regA ?_ | refine VC.condT ?_ | refine VC.condF ?_))
        refine ⟨_, i + 1, ?_, ⟨rfl, by omega, ?_⟩, ?_⟩
        · omega
        · rw [List.take_add_one, List.take_add_one, List.getElem?_eq_getElem h, List.getElem?_eq_getElem (by omega : i < b.length), he]
          have : a[i] = b[i] := by simpa using h2
          rw [this]
        · (apply Go.Ab.V.G.weak; constructor <;> simp (config := {decide := true}) only [PT.Le, inV, mkB, PT.set, VSt.kill, VSt.adopt, VSt.alloc, PT.filt, PT.map, List.map_cons, List.map_nil, noref, norefB, deadB, deadV, nos, nm, nmL, nmB, nmE, Pa.eqb, cond_true, cond_false, Bool.not_true, Bool.not_false, Bool.and_true, Bool.true_and, nmL_vi, flV_len, flP_len, flV_nm, flV_ok, flV_pv, flP_map, drop_flP, drop_flV, putC_flV, eqV2, eqV3, bneT, bneF, decide_true, decide_false, frzL_vi, frzL_flV, nmE_ag, nmE_at, frzE_ag, frzE_at, ofAg_len, ofAt_len, atL_vi, nmL_map_p, frzL_map_p, okL_p, toPVs_p, repsZ, nmL_reps, putC_vi, get_flV0, get_flV1, Int.toNat_zero, Int.toNat_one, Int.reduceToNat, eqV_slice, eqV_ptr, eqV_func, nilS, nilP, nilF, nmL_append, true_or, or_true, and_self, true_and, and_true, Option.some.injEq, reduceCtorEq, false_or, or_false, VV.p.injEq, PV.at.injEq, Value.int.injEq, sl1, vi, bl1, vb, nilV]); rfl
    · (repeat (first | refine VC.seq ?_ | refine VC.block ?_ | refine VC.kill ?_ | refine VC.skip ?_ | refine VC.exit ?_ | refine VC.regA ?_ | refine VC.condT ?_ | refine VC.condF ?_))
      refine VC.ret (Fin.A ?_)
      rw [List.take_of_length_le (by omega), List.take_of_length_le (by omega)] at he
      rw [decide_eq_true he]; rfl

def maxL (a : List Int) : Int := a.foldl max (a.headD 0)
def minL (a : List Int) : Int := a.foldl min (a.headD 0)

theorem Max_ok (a : List Int) (h0 : 0 < a.length) (hl : a.length ≤ 9223372036854775807) : VCall cfg 57 [sl1 a] [] [] (vi (maxL a)) [] := by
  have hh : a[0] = a.headD 0 := by cases a <;> simp at h0 ⊢
  (refine VCall.mk (fn := a57) rfl rfl rfl ?_; simp only [a57, inV, mkB, nmsL, PT.set])
  (repeat (first | refine VC.seq ?_ | refine VC.block ?_ | refine VC.kill ?_ | refine VC.skip ?_ | refine VC.exit ?_ | refine VC.regA ?_ | refine VC.condT ?_ | refine VC.condF ?_))
  refine VC.loopG (fun (i : Nat) => ⟨inV [p0, p3, p4] [sl1 a, vi ((a.take i).foldl max a[0]), vi i] .lf, .lf, [], none⟩) (fun n i => n = a.length - i ∧ 1 ≤ i ∧ i ≤ a.length) (x := 1) ?_ ⟨rfl, by omega, by omega⟩ ?_
  · (apply Go.Ab.V.G.weak; constructor <;> simp (config := {decide := true}) only [PT.Le, inV, mkB, PT.set, VSt.kill, VSt.adopt, VSt.alloc, PT.filt, PT.map, List.map_cons, List.map_nil, noref, norefB, deadB, deadV, nos, nm, nmL, nmB, nmE, Pa.eqb, cond_true, cond_false, Bool.not_true, Bool.not_false, Bool.and_true, Bool.true_and, nmL_vi, flV_len, flP_len, flV_nm, flV_ok, flV_pv, flP_map, drop_flP, drop_flV, putC_flV, eqV2, eqV3, bneT, bneF, decide_true, decide_false, frzL_vi, frzL_flV, nmE_ag, nmE_at, frzE_ag, frzE_at, ofAg_len, ofAt_len, atL_vi, nmL_map_p, frzL_map_p, okL_p, toPVs_p, repsZ, nmL_reps, putC_vi, get_flV0, get_flV1, Int.toNat_zero, Int.toNat_one, Int.reduceToNat, eqV_slice, eqV_ptr, eqV_func, nilS, nilP, nilF, nmL_append, true_or, or_true, and_self, true_and, and_true, Option.some.injEq, reduceCtorEq, false_or, or_false, VV.p.injEq, PV.at.injEq, Value.int.injEq, sl1, vi, bl1, vb, nilV]); cases a <;> simp at h0 ⊢
  rintro n i ⟨hn, h1, hi⟩
  simp only [inV, PT.set]
  (repeat (first | refine VC.seq ?_ | refine VC.block ?_ | refine VC.kill ?_ | refine VC.skip ?_ | refine VC.exit ?_ | refine VC.regA ?_ | refine VC.condT ?_ | refine VC.condF ?_))
  refine VC.condA ?_ ?_ <;> intro h <;> (simp only [decide_eq_true_eq, decide_eq_false_iff_not, bne_iff_ne, ne_eq, bne_eq_false_iff_eq, beq_iff_eq, beq_eq_false_iff_ne, Bool.not_eq_true', Bool.not_eq_false', Bool.and_eq_true, Bool.or_eq_true, Int.natCast_inj] at h)
  · have h : i < a.length := by omega
    (repeat (first | refine VC.seq ?_ | refine VC.block ?_ | refine VC.kill ?_ | refine VC.skip ?_ | refine VC.exit ?_ | refine VC.regA ?_ | refine VC.condT ?_ | refine VC.condF ?_))
    refine ⟨_, i + 1, ?_, ⟨rfl, by omega, by omega⟩, ?_⟩
    · omega
    · (apply Go.Ab.V.G.weak; constructor <;> simp (config := {decide := true}) only [PT.Le, inV, mkB, PT.set, VSt.kill, VSt.adopt, VSt.alloc, PT.filt, PT.map, List.map_cons, List.map_nil, noref, norefB, deadB, deadV, nos, nm, nmL, nmB, nmE, Pa.eqb, cond_true, cond_false, Bool.not_true, Bool.not_false, Bool.and_true, Bool.true_and, nmL_vi, flV_len, flP_len, flV_nm, flV_ok, flV_pv, flP_map, drop_flP, drop_flV, putC_flV, eqV2, eqV3, bneT, bneF, decide_true, decide_false, frzL_vi, frzL_flV, nmE_ag, nmE_at, frzE_ag, frzE_at, ofAg_len, ofAt_len, atL_vi, nmL_map_p, frzL_map_p, okL_p, toPVs_p, repsZ, nmL_reps, putC_vi, get_flV0, get_flV1, Int.toNat_zero, Int.toNat_one, Int.reduceToNat, eqV_slice, eqV_ptr, eqV_func, nilS, nilP, nilF, nmL_append, true_or, or_true, and_self, true_and, and_true, Option.some.injEq, reduceCtorEq, false_or, or_false, VV.p.injEq, PV.at.injEq, Value.int.injEq, sl1, vi, bl1, vb, nilV])
      rw [List.take_add_one, List.getElem?_eq_getElem h, List.foldl_append]; exact ⟨rfl, by omega⟩
  · (repeat (first | refine VC.seq ?_ | refine VC.block ?_ | refine VC.kill ?_ | refine VC.skip ?_ | refine VC.exit ?_ | refine VC.regA ?_ | refine VC.condT ?_ | refine VC.condF ?_))
    refine VC.ret (Fin.A ?_)
    rw [List.take_of_length_le (by omega), hh]; rfl
theorem Min_ok (a : List Int) (h0 : 0 < a.length) (hl : a.length ≤ 9223372036854775807) : VCall cfg 64 [sl1 a] [] [] (vi (minL a)) [] := by
  have hh : a[0] = a.headD 0 := by cases a <;> simp at h0 ⊢
  (refine VCall.mk (fn := a64) rfl rfl rfl ?_; simp only [a64, inV, mkB, nmsL, PT.set])
  (repeat (first | refine VC.seq ?_ | refine VC.block ?_ | refine VC.kill ?_ | refine VC.skip ?_ | refine VC.exit ?_ | refine VC.regA ?_ | refine VC.condT ?_ | refine VC.condF ?_))
  refine VC.loopG (fun (i : Nat) => ⟨inV [p0, p3, p4] [sl1 a, vi ((a.take i).foldl min a[0]), vi i] .lf, .lf, [], none⟩) (fun n i => n = a.length - i ∧ 1 ≤ i ∧ i ≤ a.length) (x := 1) ?_ ⟨rfl, by omega, by omega⟩ ?_
  · (apply Go.Ab.V.G.weak; constructor <;> simp (config := {decide := true}) only [PT.Le, inV, mkB, PT.set, VSt.kill, VSt.adopt, VSt.alloc, PT.filt, PT.map, List.map_cons, List.map_nil, noref, norefB, deadB, deadV, nos, nm, nmL, nmB, nmE, Pa.eqb, cond_true, cond_false, Bool.not_true, Bool.not_false, Bool.and_true, Bool.true_and, nmL_vi, flV_len, flP_len, flV_nm, flV_ok, flV_pv, flP_map, drop_flP, drop_flV, putC_flV, eqV2, eqV3, bneT, bneF, decide_true, decide_false, frzL_vi, frzL_flV, nmE_ag, nmE_at, frzE_ag, frzE_at, ofAg_len, ofAt_len, atL_vi, nmL_map_p, frzL_map_p, okL_p, toPVs_p, repsZ, nmL_reps, putC_vi, get_flV0, get_flV1, Int.toNat_zero, Int.toNat_one, Int.reduceToNat, eqV_slice, eqV_ptr, eqV_func, nilS, nilP, nilF, nmL_append, true_or, or_true, and_self, true_and, and_true, Option.some.injEq, reduceCtorEq, false_or, or_false, VV.p.injEq, PV.at.injEq, Value.int.injEq, sl1, vi, bl1, vb, nilV]); cases a <;> simp at h0 ⊢
  rintro n i ⟨hn, h1, hi⟩
  simp only [inV, PT.set]
  (repeat (first | refine VC.seq ?_ | refine VC.block ?_ | refine VC.kill ?_ | refine VC.skip ?_ | refine VC.exit ?_ | refine VC.regA ?_ | refine VC.condT ?_ | refine VC.condF ?_))
  refine VC.condA ?_ ?_ <;> intro h <;> (simp only [decide_eq_true_eq, decide_eq_false_iff_not, bne_iff_ne, ne_eq, bne_eq_false_iff_eq, beq_iff_eq, beq_eq_false_iff_ne, Bool.not_eq_true', Bool.not_eq_false', Bool.and_eq_true, Bool.or_eq_true, Int.natCast_inj] at h)
  · have h : i < a.length := by omega
    (repeat (first | refine VC.seq ?_ | refine VC.block ?_ | refine VC.kill ?_ | refine VC.skip ?_ | refine VC.exit ?_ | refine VC.regA ?_ | refine VC.condT ?_ | refine VC.condF ?_))
    refine ⟨_, i + 1, ?_, ⟨rfl, by omega, by omega⟩, ?_⟩
    · omega
    · (apply Go.Ab.V.G.weak; constructor <;> simp (config := {decide := true}) only [PT.Le, inV, mkB, PT.set, VSt.kill, VSt.adopt, VSt.alloc, PT.filt, PT.map, List.map_cons, List.map_nil, noref, norefB, deadB, deadV, nos, nm, nmL, nmB, nmE, Pa.eqb, cond_true, cond_false, Bool.not_true, Bool.not_false, Bool.and_true, Bool.true_and, nmL_vi, flV_len, flP_len, flV_nm, flV_ok, flV_pv, flP_map, drop_flP, drop_flV, putC_flV, eqV2, eqV3, bneT, bneF, decide_true, decide_false, frzL_vi, frzL_flV, nmE_ag, nmE_at, frzE_ag, frzE_at, ofAg_len, ofAt_len, atL_vi, nmL_map_p, frzL_map_p, okL_p, toPVs_p, repsZ, nmL_reps, putC_vi, get_flV0, get_flV1, Int.toNat_zero, Int.toNat_one, Int.reduceToNat, eqV_slice, eqV_ptr, eqV_func, nilS, nilP, nilF, nmL_append, true_or, or_true, and_self, true_and, and_true, Option.some.injEq, reduceCtorEq, false_or, or_false, VV.p.injEq, PV.at.injEq, Value.int.injEq, sl1, vi, bl1, vb, nilV])
      rw [List.take_add_one, List.getElem?_eq_getElem h, List.foldl_append]; exact ⟨rfl, by omega⟩
  · (repeat (first | refine VC.seq ?_ | refine VC.block ?_ | refine VC.kill ?_ | refine VC.skip ?_ | refine VC.exit ?_ | refine VC.regA ?_ | refine VC.condT ?_ | refine VC.condF ?_))
    refine VC.ret (Fin.A ?_)
    rw [List.take_of_length_le (by omega), hh]; rfl

def gcdL (a : List Int) : Nat := (a.map Int.toNat).foldl Nat.gcd 0
theorem gcdL_succ {a : List Int} {i : Nat} (h : i < a.length) : gcdL (a.take (i + 1)) = Nat.gcd (gcdL (a.take i)) a[i].toNat := by
  unfold gcdL; rw [take_map_succ h, List.foldl_append]; rfl
theorem gcd_step (x y : Nat) : Nat.gcd y (x % y) = Nat.gcd x y := by rw [Nat.gcd_comm y, ← Nat.gcd_rec, Nat.gcd_comm]
theorem divisor_ok (a : List Int) (hp : ∀ x ∈ a, 0 ≤ x) (hl : a.length ≤ 9223372036854775807) : VCall cfg 58 [sl1 a] [] [] (vi (gcdL a)) [] := by
  (refine VCall.mk (fn := a58) rfl rfl rfl ?_; simp only [a58, inV, mkB, nmsL, PT.set])
  (repeat (first | refine VC.seq ?_ | refine VC.block ?_ | refine VC.kill ?_ | refine VC.skip ?_ | refine VC.exit ?_ | refine VC.regA ?_ | refine VC.condT ?_ | refine VC.condF ?_))
  refine VC.loopG (fun (i : Nat) => ⟨inV [p3, p6, p7, p8] [vi (gcdL (a.take i)), sl1 a, vi a.length, vi i] .lf, .lf, [], none⟩) (fun n i => n = a.length - i ∧ i ≤ a.length) (x := 0) ?_ ⟨rfl, by omega⟩ ?_
  · (apply Go.Ab.V.G.weak; constructor <;> simp (config := {decide := true}) only [PT.Le, inV, mkB, PT.set, VSt.kill, VSt.adopt, VSt.alloc, PT.filt, PT.map, List.map_cons, List.map_nil, noref, norefB, deadB, deadV, nos, nm, nmL, nmB, nmE, Pa.eqb, cond_true, cond_false, Bool.not_true, Bool.not_false, Bool.and_true, Bool.true_and, nmL_vi, flV_len, flP_len, flV_nm, flV_ok, flV_pv, flP_map, drop_flP, drop_flV, putC_flV, eqV2, eqV3, bneT, bneF, decide_true, decide_false, frzL_vi, frzL_flV, nmE_ag, nmE_at, frzE_ag, frzE_at, ofAg_len, ofAt_len, atL_vi, nmL_map_p, frzL_map_p, okL_p, toPVs_p, repsZ, nmL_reps, putC_vi, get_flV0, get_flV1, Int.toNat_zero, Int.toNat_one, Int.reduceToNat, eqV_slice, eqV_ptr, eqV_func, nilS, nilP, nilF, nmL_append, true_or, or_true, and_self, true_and, and_true, Option.some.injEq, reduceCtorEq, false_or, or_false, VV.p.injEq, PV.at.injEq, Value.int.injEq, sl1, vi, bl1, vb, nilV]); rfl
  rintro n i ⟨hn, hi⟩
  simp only [inV, PT.set]
  (repeat (first | refine VC.seq ?_ | refine VC.block ?_ | refine VC.kill ?_ | refine VC.skip ?_ | refine VC.exit ?_ | refine VC.regA ?_ | refine VC.condT ?_ | refine VC.condF ?_))
  refine VC.condA ?_ ?_ <;> intro h <;> (simp only [decide_eq_true_eq, decide_eq_false_iff_not, bne_iff_ne, ne_eq, bne_eq_false_iff_eq, beq_iff_eq, beq_eq_false_iff_ne, Bool.not_eq_true', Bool.not_eq_false', Bool.and_eq_true, Bool.or_eq_true, Int.natCast_inj] at h)
  · have h : i < a.length := by omega
    have ha0 := hp _ (List.getElem_mem h)
    (repeat (first | refine VC.seq ?_ | refine VC.block ?_ | refine VC.kill ?_ | refine VC.skip ?_ | refine VC.exit ?_ | refine VC.regA ?_ | refine VC.condT ?_ | refine VC.condF ?_))
    refine VC.loopG (fun q : Nat × Nat => ⟨inV [p3, p5, p6, p7, p8] [vi q.1, vi q.2, sl1 a, vi a.length, vi i] .lf, .lf, [], none⟩) (fun n q => n = q.2 ∧ Nat.gcd q.1 q.2 = gcdL (a.take (i + 1))) (x := (gcdL (a.take i), a[i].toNat)) ?_ ⟨rfl, (gcdL_succ h).symm⟩ ?_
    · (apply Go.Ab.V.G.weak; constructor <;> simp (config := {decide := true}) only [PT.Le, inV, mkB, PT.set, VSt.kill, VSt.adopt, VSt.alloc, PT.filt, PT.map, List.map_cons, List.map_nil, noref, norefB, deadB, deadV, nos, nm, nmL, nmB, nmE, Pa.eqb, cond_true, cond_false, Bool.not_true, Bool.not_false, Bool.and_true, Bool.true_and, nmL_vi, flV_len, flP_len, flV_nm, flV_ok, flV_pv, flP_map, drop_flP, drop_flV, putC_flV, eqV2, eqV3, bneT, bneF, decide_true, decide_false, frzL_vi, frzL_flV, nmE_ag, nmE_at, frzE_ag, frzE_at, ofAg_len, ofAt_len, atL_vi, nmL_map_p, frzL_map_p, okL_p, toPVs_p, repsZ, nmL_reps, putC_vi, get_flV0, get_flV1, Int.toNat_zero, Int.toNat_one, Int.reduceToNat, eqV_slice, eqV_ptr, eqV_func, nilS, nilP, nilF, nmL_append, true_or, or_true, and_self, true_and, and_true, Option.some.injEq, reduceCtorEq, false_or, or_false, VV.p.injEq, PV.at.injEq, Value.int.injEq, sl1, vi, bl1, vb, nilV]); omega
    rintro n ⟨x, y⟩ ⟨hn2, he⟩
    simp only at hn2 he
    simp only [inV, PT.set]
    (repeat (first | refine VC.seq ?_ | refine VC.block ?_ | refine VC.kill ?_ | refine VC.skip ?_ | refine VC.exit ?_ | refine VC.regA ?_ | refine VC.condT ?_ | refine VC.condF ?_))
    refine VC.condA ?_ ?_ <;> intro h2 <;> (simp only [decide_eq_true_eq, decide_eq_false_iff_not, bne_iff_ne, ne_eq, bne_eq_false_iff_eq, beq_iff_eq, beq_eq_false_iff_ne, Bool.not_eq_true', Bool.not_eq_false', Bool.and_eq_true, Bool.or_eq_true, Int.natCast_inj] at h2)
    · (repeat (first | refine VC.seq ?_ | refine VC.block ?_ | refine VC.kill ?_ | refine VC.skip ?_ | refine VC.exit ?_ | refine VC.regA ?_ | refine VC.condT ?_ | refine VC.condF ?_))
      refine ⟨_, (y, x % y), ?_, ⟨rfl, (gcd_step x y).trans he⟩, ?_⟩
      · rw [hn2]; exact Nat.mod_lt _ (by omega)
      · (apply Go.Ab.V.G.weak; constructor <;> simp (config := {decide := true}) only [PT.Le, inV, mkB, PT.set, VSt.kill, VSt.adopt, VSt.alloc, PT.filt, PT.map, List.map_cons, List.map_nil, noref, norefB, deadB, deadV, nos, nm, nmL, nmB, nmE, Pa.eqb, cond_true, cond_false, Bool.not_true, Bool.not_false, Bool.and_true, Bool.true_and, nmL_vi, flV_len, flP_len, flV_nm, flV_ok, flV_pv, flP_map, drop_flP, drop_flV, putC_flV, eqV2, eqV3, bneT, bneF, decide_true, decide_false, frzL_vi, frzL_flV, nmE_ag, nmE_at, frzE_ag, frzE_at, ofAg_len, ofAt_len, atL_vi, nmL_map_p, frzL_map_p, okL_p, toPVs_p, repsZ, nmL_reps, putC_vi, get_flV0, get_flV1, Int.toNat_zero, Int.toNat_one, Int.reduceToNat, eqV_slice, eqV_ptr, eqV_func, nilS, nilP, nilF, nmL_append, true_or, or_true, and_self, true_and, and_true, Option.some.injEq, reduceCtorEq, false_or, or_false, VV.p.injEq, PV.at.injEq, Value.int.injEq, sl1, vi, bl1, vb, nilV]); omega
    · have hy0 : y = 0 := by omega
      subst hy0
      (repeat (first | refine VC.seq ?_ | refine VC.block ?_ | refine VC.kill ?_ | refine VC.skip ?_ | refine VC.exit ?_ | refine VC.regA ?_ | refine VC.condT ?_ | refine VC.condF ?_))
      refine ⟨_, i + 1, ?_, ⟨rfl, by omega⟩, ?_⟩
      · omega
      · (apply Go.Ab.V.G.weak; constructor <;> simp (config := {decide := true}) only [PT.Le, inV, mkB, PT.set, VSt.kill, VSt.adopt, VSt.alloc, PT.filt, PT.map, List.map_cons, List.map_nil, noref, norefB, deadB, deadV, nos, nm, nmL, nmB, nmE, Pa.eqb, cond_true, cond_false, Bool.not_true, Bool.not_false, Bool.and_true, Bool.true_and, nmL_vi, flV_len, flP_len, flV_nm, flV_ok, flV_pv, flP_map, drop_flP, drop_flV, putC_flV, eqV2, eqV3, bneT, bneF, decide_true, decide_false, frzL_vi, frzL_flV, nmE_ag, nmE_at, frzE_ag, frzE_at, ofAg_len, ofAt_len, atL_vi, nmL_map_p, frzL_map_p, okL_p, toPVs_p, repsZ, nmL_reps, putC_vi, get_flV0, get_flV1, Int.toNat_zero, Int.toNat_one, Int.reduceToNat, eqV_slice, eqV_ptr, eqV_func, nilS, nilP, nilF, nmL_append, true_or, or_true, and_self, true_and, and_true, Option.some.injEq, reduceCtorEq, false_or, or_false, VV.p.injEq, PV.at.injEq, Value.int.injEq, sl1, vi, bl1, vb, nilV]); simp only [Nat.gcd_zero_right] at he; omega
  · (repeat (first | refine VC.seq ?_ | refine VC.block ?_ | refine VC.kill ?_ | refine VC.skip ?_ | refine VC.exit ?_ | refine VC.regA ?_ | refine VC.condT ?_ | refine VC.condF ?_))
    refine VC.ret (Fin.A ?_)
    rw [List.take_of_length_le (by omega)]; rfl

def okJ (a : List Int) : Prop := 1 ≤ a.length ∧ a.length ≤ 4 ∧ 1 ≤ minL a ∧ maxL a ≤ 12
instance (a : List Int) : Decidable (okJ a) := by unfold okJ; infer_instance
theorem Check_ok (a : List Int) (hl : a.length ≤ 9223372036854775807) : VCall cfg 43 [sl1 a] [] [] (vi (if okJ a then 0 else 20)) [] := by
  (refine VCall.mk (fn := a43) rfl rfl rfl ?_; simp only [a43, inV, mkB, nmsL, PT.set])
  by_cases h1 : a.length < 1
  · (repeat (first | refine VC.seq ?_ | refine VC.block ?_ | refine VC.kill ?_ | refine VC.skip ?_ | refine VC.exit ?_ | refine VC.regA ?_ | refine VC.condT ?_ | refine VC.condF ?_))
    refine VC.ret (Fin.A ?_); rw [if_neg (by unfold okJ; omega)]; rfl
  by_cases h2 : 4 < a.length
  · (repeat (first | refine VC.seq ?_ | refine VC.block ?_ | refine VC.kill ?_ | refine VC.skip ?_ | refine VC.exit ?_ | refine VC.regA ?_ | refine VC.condT ?_ | refine VC.condF ?_))
    refine VC.ret (Fin.A ?_); rw [if_neg (by unfold okJ; omega)]; rfl
  (repeat (first | refine VC.seq ?_ | refine VC.block ?_ | refine VC.kill ?_ | refine VC.skip ?_ | refine VC.exit ?_ | refine VC.regA ?_ | refine VC.condT ?_ | refine VC.condF ?_))
  refine VC.regCA ?_
  refine VO.call0A (no_orc 64 (by decide)) (Min_ok a (by omega) hl) ?_
  by_cases h3 : minL a < 1
  · refine VO.endA ?_
    (repeat (first | refine VC.seq ?_ | refine VC.block ?_ | refine VC.kill ?_ | refine VC.skip ?_ | refine VC.exit ?_ | refine VC.regA ?_ | refine VC.condT ?_ | refine VC.condF ?_))
    refine VC.ret (Fin.A ?_); rw [if_neg (by unfold okJ; omega)]; rfl
  refine VO.moreA ?_
  refine VO.call0A (no_orc 57 (by decide)) (Max_ok a (by omega) hl) ?_
  by_cases h4 : 12 < maxL a
  · refine VO.endA ?_
    (repeat (first | refine VC.seq ?_ | refine VC.block ?_ | refine VC.kill ?_ | refine VC.skip ?_ | refine VC.exit ?_ | refine VC.regA ?_ | refine VC.condT ?_ | refine VC.condF ?_))
    refine VC.ret (Fin.A ?_); rw [if_neg (by unfold okJ; omega)]; rfl
  refine VO.endA ?_
  (repeat (first | refine VC.seq ?_ | refine VC.block ?_ | refine VC.kill ?_ | refine VC.skip ?_ | refine VC.exit ?_ | refine VC.regA ?_ | refine VC.condT ?_ | refine VC.condF ?_))
  refine VC.ret (Fin.A ?_); rw [if_pos (by unfold okJ; omega)]; rfl

def red12 (x : Int) : Int := 1 + x % 18446744073709551616 % 12
theorem red12_bd (x : Int) : 1 ≤ red12 x ∧ red12 x ≤ 12 := by unfold red12; omega
def tameJ (l : List Int) (most : Nat) : List Int := if (l.take most).length = 0 then [3] else (l.take most).map red12
theorem tame_ok (l : List Int) (m : Nat) (hm : m < 100) (hl : l.length ≤ 9223372036854775807) : VCall cfg 16 [sl1 l, vi m] [] [] (sl1 (tameJ l m)) [] := by
  (refine VCall.mk (fn := a16) rfl rfl rfl ?_; simp only [a16, inV, mkB, nmsL, PT.set])
  (repeat (first | refine VC.seq ?_ | refine VC.block ?_ | refine VC.kill ?_ | refine VC.skip ?_ | refine VC.exit ?_ | refine VC.regA ?_ | refine VC.condT ?_ | refine VC.condF ?_))
  refine VC.loopG (fun (i : Nat) => ⟨inV [p0, p1, p5, p6] [sl1 l, vi m, .os 1 p28 i, vi i] .lf, mkB [(p28, bl1 ((l.take i).map red12))] .lf, [], none⟩) (fun n i => n = l.length - i ∧ i ≤ l.length ∧ i ≤ m) (x := 0) ?_ ⟨rfl, by omega, by omega⟩ ?_
  · refine G.adoptA (p := p5) 1 p28 ?_
    (apply Go.Ab.V.G.weak; constructor <;> simp (config := {decide := true}) only [PT.Le, inV, mkB, PT.set, VSt.kill, VSt.adopt, VSt.alloc, PT.filt, PT.map, List.map_cons, List.map_nil, noref, norefB, deadB, deadV, nos, nm, nmL, nmB, nmE, Pa.eqb, cond_true, cond_false, Bool.not_true, Bool.not_false, Bool.and_true, Bool.true_and, nmL_vi, flV_len, flP_len, flV_nm, flV_ok, flV_pv, flP_map, drop_flP, drop_flV, putC_flV, eqV2, eqV3, bneT, bneF, decide_true, decide_false, frzL_vi, frzL_flV, nmE_ag, nmE_at, frzE_ag, frzE_at, ofAg_len, ofAt_len, atL_vi, nmL_map_p, frzL_map_p, okL_p, toPVs_p, repsZ, nmL_reps, putC_vi, get_flV0, get_flV1, Int.toNat_zero, Int.toNat_one, Int.reduceToNat, eqV_slice, eqV_ptr, eqV_func, nilS, nilP, nilF, nmL_append, true_or, or_true, and_self, true_and, and_true, Option.some.injEq, reduceCtorEq, false_or, or_false, VV.p.injEq, PV.at.injEq, Value.int.injEq, sl1, vi, bl1, vb, nilV]); rfl
  rintro n i ⟨hn, hi, him⟩
  simp only [inV, PT.set, mkB]
  have hlen : (l.take i).length = i := by simp; omega
  rcases Nat.lt_or_ge i l.length with h1 | h1 <;> rcases Nat.lt_or_ge i m with h2 | h2
  · (repeat (first | refine VC.seq ?_ | refine VC.block ?_ | refine VC.kill ?_ | refine VC.skip ?_ | refine VC.exit ?_ | refine VC.regA ?_ | refine VC.condT ?_ | refine VC.condF ?_))
    refine ⟨_, i + 1, ?_, ⟨rfl, by omega, by omega⟩, ?_⟩
    · omega
    · (apply Go.Ab.V.G.weak; constructor <;> simp (config := {decide := true}) only [PT.Le, inV, mkB, PT.set, VSt.kill, VSt.adopt, VSt.alloc, PT.filt, PT.map, List.map_cons, List.map_nil, noref, norefB, deadB, deadV, nos, nm, nmL, nmB, nmE, Pa.eqb, cond_true, cond_false, Bool.not_true, Bool.not_false, Bool.and_true, Bool.true_and, nmL_vi, flV_len, flP_len, flV_nm, flV_ok, flV_pv, flP_map, drop_flP, drop_flV, putC_flV, eqV2, eqV3, bneT, bneF, decide_true, decide_false, frzL_vi, frzL_flV, nmE_ag, nmE_at, frzE_ag, frzE_at, ofAg_len, ofAt_len, atL_vi, nmL_map_p, frzL_map_p, okL_p, toPVs_p, repsZ, nmL_reps, putC_vi, get_flV0, get_flV1, Int.toNat_zero, Int.toNat_one, Int.reduceToNat, eqV_slice, eqV_ptr, eqV_func, nilS, nilP, nilF, nmL_append, true_or, or_true, and_self, true_and, and_true, Option.some.injEq, reduceCtorEq, false_or, or_false, VV.p.injEq, PV.at.injEq, Value.int.injEq, sl1, vi, bl1, vb, nilV, take_map_succ h1, List.map_append, List.map_cons, List.map_nil]) <;> first | rfl | omega
  all_goals
    have ht : l.take m = l.take i := by
      rcases Nat.lt_or_ge i m with h | h
      · rw [List.take_of_length_le (by omega), List.take_of_length_le (by omega)]
      · rw [show m = i by omega]
    by_cases hz : i = 0
    · subst hz
      (repeat (first | refine VC.seq ?_ | refine VC.block ?_ | refine VC.kill ?_ | refine VC.skip ?_ | refine VC.exit ?_ | refine VC.regA ?_ | refine VC.condT ?_ | refine VC.condF ?_))
      refine VC.ret (Fin.frzA p32 (Fin.A ?_))
      have h0 : (l.take m).length = 0 := by rw [ht]; simp
      unfold tameJ; rw [if_pos h0]; rfl
    · (repeat (first | refine VC.seq ?_ | refine VC.block ?_ | refine VC.kill ?_ | refine VC.skip ?_ | refine VC.exit ?_ | refine VC.regA ?_ | refine VC.condT ?_ | refine VC.condF ?_))
      refine VC.ret (Fin.frzA p28 (Fin.A ?_))
      have h0 : (l.take m).length ≠ 0 := by rw [ht, List.length_take]; omega
      unfold tameJ; rw [if_neg h0, ht, sl1, List.length_map, hlen]; rfl
end Go.Ab.Jug

namespace Go.Ab.Jug
open Go.Ab.V
set_option maxRecDepth 100000
theorem foldl_max_ge : ∀ (a : List Int) (m : Int), m ≤ a.foldl max m ∧ ∀ x ∈ a, x ≤ a.foldl max m
  | [], m => ⟨Int.le_refl _, by simp⟩
  | y :: a, m => by
    obtain ⟨h1, h2⟩ := foldl_max_ge a (max m y)
    simp only [List.foldl_cons]
    exact ⟨by omega, fun x hx => by
      rcases List.mem_cons.1 hx with rfl | hx
      · omega
      · exact h2 x hx⟩
theorem foldl_min_le : ∀ (a : List Int) (m : Int), a.foldl min m ≤ m ∧ ∀ x ∈ a, a.foldl min m ≤ x
  | [], m => ⟨Int.le_refl _, by simp⟩
  | y :: a, m => by
    obtain ⟨h1, h2⟩ := foldl_min_le a (min m y)
    simp only [List.foldl_cons]
    exact ⟨by omega, fun x hx => by
      rcases List.mem_cons.1 hx with rfl | hx
      · omega
      · exact h2 x hx⟩
theorem okJ_mem {a : List Int} (h : okJ a) : ∀ x ∈ a, 1 ≤ x ∧ x ≤ 12 := fun x hx => by
  obtain ⟨_, _, h3, h4⟩ := h
  have h1 := (foldl_max_ge a (a.headD 0)).2 x hx
  have h2 := (foldl_min_le a (a.headD 0)).2 x hx
  unfold maxL at h4; unfold minL at h3
  omega
theorem gcd_fold : ∀ (a : List Nat) (g : Nat), (∀ x ∈ a, 0 < x) → a ≠ [] → 0 < a.foldl Nat.gcd g
  | [x], g, h, _ => by simp; exact (.inr (h x (by simp)))
  | x :: y :: a, g, h, _ => gcd_fold (y :: a) (Nat.gcd g x) (fun z hz => h z (List.mem_cons_of_mem _ hz)) (by simp)
theorem gcdL_pos {a : List Int} (h : okJ a) : 0 < gcdL a := by
  refine gcd_fold _ 0 (fun x hx => ?_) ?_
  · obtain ⟨y, hy, rfl⟩ := List.mem_map.1 hx
    have := okJ_mem h y hy; omega
  · intro e; have := h.1; rw [List.map_eq_nil_iff] at e; subst e; simp at this
theorem maxL_pos {a : List Int} (h : okJ a) : 1 ≤ maxL a ∧ maxL a ≤ 12 := by
  obtain ⟨h1, h2, h3, h4⟩ := h
  have hx : a[0] ∈ a := List.getElem_mem (by omega)
  have := (foldl_max_ge a (a.headD 0)).2 _ hx
  have := (foldl_min_le a (a.headD 0)).2 _ hx
  unfold maxL at *; unfold minL at *
  omega
theorem gcd_dvd : ∀ (a : List Nat) (g : Nat), a.foldl Nat.gcd g ∣ g ∧ ∀ x ∈ a, a.foldl Nat.gcd g ∣ x
  | [], g => ⟨Nat.dvd_refl _, by simp⟩
  | y :: a, g => by
    obtain ⟨h1, h2⟩ := gcd_dvd a (Nat.gcd g y)
    simp only [List.foldl_cons]
    exact ⟨Nat.dvd_trans h1 (Nat.gcd_dvd_left _ _), fun x hx => by
      rcases List.mem_cons.1 hx with rfl | hx
      · exact Nat.dvd_trans h1 (Nat.gcd_dvd_right _ _)
      · exact h2 x hx⟩
theorem gcdL_le {a : List Int} (h : okJ a) : gcdL a ≤ 12 := by
  have h0 : 0 < a.length := h.1
  have hx : a[0] ∈ a := List.getElem_mem h0
  have hb := okJ_mem h _ hx
  have := Nat.le_of_dvd (by omega) ((gcd_dvd (a.map Int.toNat) 0).2 _ (List.mem_map.2 ⟨_, hx, rfl⟩))
  unfold gcdL; omega
def amts (a : List Int) : List Int := (List.range ((maxL a).toNat / gcdL a + 1)).map fun (k : Nat) => (k : Int) * gcdL a
theorem Amounts_ok (a : List Int) (h : okJ a) : VCall cfg 30 [sl1 a] [] [] (.tup [sl1 (amts a), vi 0]) [] := by
  have hl : a.length ≤ 9223372036854775807 := by have := h.2.1; omega
  have hc := Check_ok a hl
  rw [if_pos h] at hc
  have hg := gcdL_pos h
  have hm := maxL_pos h
  have hg12 := gcdL_le h
  (refine VCall.mk (fn := a30) rfl rfl rfl ?_; simp only [a30, inV, mkB, nmsL, PT.set])
  (repeat (first | refine VC.seq ?_ | refine VC.block ?_ | refine VC.kill ?_ | refine VC.skip ?_ | refine VC.exit ?_ | refine VC.regA ?_ | refine VC.condT ?_ | refine VC.condF ?_))
  refine VC.regCA ?_
  refine VO.call0A (no_orc 43 (by decide)) hc ?_
  refine VO.endA ?_
  (repeat (first | refine VC.seq ?_ | refine VC.block ?_ | refine VC.kill ?_ | refine VC.skip ?_ | refine VC.exit ?_ | refine VC.regA ?_ | refine VC.condT ?_ | refine VC.condF ?_))
  let L : Nat → List Int := fun i => (List.range i).map fun (k : Nat) => (k : Int) * gcdL a
  have hL : ∀ i, (L i).length = i := fun i => by simp [L]
  refine VC.loopG (fun (i : Nat) => ⟨inV [p0, p5, p6] [sl1 a, .os 1 p23 i, vi (i * gcdL a)] .lf, mkB [(p23, bl1 (L i))] .lf, [], none⟩) (fun n i => n = (maxL a).toNat / gcdL a + 1 - i ∧ i ≤ (maxL a).toNat / gcdL a + 1) (x := 0) ?_ ⟨rfl, Nat.zero_le _⟩ ?_
  · refine G.adoptA (p := p5) 1 p23 ?_
    (apply Go.Ab.V.G.weak; constructor <;> simp (config := {decide := true}) only [PT.Le, inV, mkB, PT.set, VSt.kill, VSt.adopt, VSt.alloc, PT.filt, PT.map, List.map_cons, List.map_nil, noref, norefB, deadB, deadV, nos, nm, nmL, nmB, nmE, Pa.eqb, cond_true, cond_false, Bool.not_true, Bool.not_false, Bool.and_true, Bool.true_and, nmL_vi, flV_len, flP_len, flV_nm, flV_ok, flV_pv, flP_map, drop_flP, drop_flV, putC_flV, eqV2, eqV3, bneT, bneF, decide_true, decide_false, frzL_vi, frzL_flV, nmE_ag, nmE_at, frzE_ag, frzE_at, ofAg_len, ofAt_len, atL_vi, nmL_map_p, frzL_map_p, okL_p, toPVs_p, repsZ, nmL_reps, putC_vi, get_flV0, get_flV1, Int.toNat_zero, Int.toNat_one, Int.reduceToNat, eqV_slice, eqV_ptr, eqV_func, nilS, nilP, nilF, nmL_append, true_or, or_true, and_self, true_and, and_true, Option.some.injEq, reduceCtorEq, false_or, or_false, VV.p.injEq, PV.at.injEq, Value.int.injEq, sl1, vi, bl1, vb, nilV])
    · simp
    · rfl
  rintro n i ⟨hn, hi⟩
  have hq : (i : Int) * gcdL a ≤ maxL a ↔ i ≤ (maxL a).toNat / gcdL a := by
    rw [Nat.le_div_iff_mul_le hg]
    constructor
    · intro h; have : ((i * gcdL a : Nat) : Int) ≤ ((maxL a).toNat : Int) := by rw [Int.natCast_mul]; omega
      omega
    · intro h; have : ((i * gcdL a : Nat) : Int) ≤ ((maxL a).toNat : Int) := by omega
      rw [Int.natCast_mul] at this; omega
  have hp0 : 0 ≤ (i : Int) * gcdL a := Int.mul_nonneg (by omega) (by omega)
  have hLi := hL i
  simp only [inV, PT.set, mkB]
  (repeat (first | refine VC.seq ?_ | refine VC.block ?_ | refine VC.kill ?_ | refine VC.skip ?_ | refine VC.exit ?_ | refine VC.regA ?_ | refine VC.condT ?_ | refine VC.condF ?_))
  refine VC.regCA ?_
  refine VO.call0A (no_orc 57 (by decide)) (Max_ok a (by have := h.1; omega) hl) ?_
  refine VO.endA ?_
  (repeat (first | refine VC.seq ?_ | refine VC.block ?_ | refine VC.kill ?_ | refine VC.skip ?_ | refine VC.exit ?_ | refine VC.regA ?_ | refine VC.condT ?_ | refine VC.condF ?_))
  refine VC.condA ?_ ?_ <;> intro hc <;> (simp only [decide_eq_true_eq, decide_eq_false_iff_not, bne_iff_ne, ne_eq, bne_eq_false_iff_eq, beq_iff_eq, beq_eq_false_iff_ne, Bool.not_eq_true', Bool.not_eq_false', Bool.and_eq_true, Bool.or_eq_true, Int.natCast_inj] at hc)
  · have hc' := hq.1 hc
    have hi12 : i ≤ 12 := by have := Nat.div_le_self (maxL a).toNat (gcdL a); omega
    (repeat (first | refine VC.seq ?_ | refine VC.block ?_ | refine VC.kill ?_ | refine VC.skip ?_ | refine VC.exit ?_ | refine VC.regA ?_ | refine VC.condT ?_ | refine VC.condF ?_))
    refine VC.regCA ?_
    refine VO.call0A (no_orc 58 (by decide)) (divisor_ok a (fun x hx => by have := okJ_mem h x hx; omega) hl) ?_
    refine VO.endA ?_
    refine ⟨_, i + 1, ?_, ⟨rfl, by omega⟩, ?_⟩
    · omega
    · (apply Go.Ab.V.G.weak; constructor <;> simp (config := {decide := true}) only [PT.Le, inV, mkB, PT.set, VSt.kill, VSt.adopt, VSt.alloc, PT.filt, PT.map, List.map_cons, List.map_nil, noref, norefB, deadB, deadV, nos, nm, nmL, nmB, nmE, Pa.eqb, cond_true, cond_false, Bool.not_true, Bool.not_false, Bool.and_true, Bool.true_and, nmL_vi, flV_len, flP_len, flV_nm, flV_ok, flV_pv, flP_map, drop_flP, drop_flV, putC_flV, eqV2, eqV3, bneT, bneF, decide_true, decide_false, frzL_vi, frzL_flV, nmE_ag, nmE_at, frzE_ag, frzE_at, ofAg_len, ofAt_len, atL_vi, nmL_map_p, frzL_map_p, okL_p, toPVs_p, repsZ, nmL_reps, putC_vi, get_flV0, get_flV1, Int.toNat_zero, Int.toNat_one, Int.reduceToNat, eqV_slice, eqV_ptr, eqV_func, nilS, nilP, nilF, nmL_append, true_or, or_true, and_self, true_and, and_true, Option.some.injEq, reduceCtorEq, false_or, or_false, VV.p.injEq, PV.at.injEq, Value.int.injEq, sl1, vi, bl1, vb, nilV])
      · rw [Int.natCast_add, Int.add_mul, Int.natCast_one, Int.one_mul]
      · show VB.cells (List.map vi (L (i + 1))) = _
        have : L (i + 1) = L i ++ [(i : Int) * gcdL a] := by simp only [L, List.range_succ, List.map_append, List.map_cons, List.map_nil]
        rw [this, List.map_append]; rfl
  · have hi' : i = (maxL a).toNat / gcdL a + 1 := by
      have : ¬ i ≤ (maxL a).toNat / gcdL a := fun h => hc (hq.2 h)
      omega
    (repeat (first | refine VC.seq ?_ | refine VC.block ?_ | refine VC.kill ?_ | refine VC.skip ?_ | refine VC.exit ?_ | refine VC.regA ?_ | refine VC.condT ?_ | refine VC.condF ?_))
    refine VC.ret (Fin.frzA p23 (Fin.A ?_))
    have e : L i = amts a := by rw [hi']; rfl
    rw [sl1, ← e, hL]; rfl

end Go.Ab.Jug

namespace Go.Ab.Jug
open Go.Ab.V
set_option maxRecDepth 100000
theorem sl1_take (l : List Int) (m : Nat) : sl1 (l.take m) = .p (.sl 1 (min l.length m) ((l.take (min l.length m)).map pi)) := by
  have : l.take (min l.length m) = l.take m := by
    rcases Nat.le_total l.length m with h | h
    · rw [Nat.min_eq_left h, List.take_of_length_le h, List.take_length]
    · rw [Nat.min_eq_right h]
  rw [sl1, this, List.length_take, Nat.min_comm]
theorem few_ok (l : List Int) (m : Nat) (hm : m < 1000) (hl : l.length ≤ 9223372036854775807) : VCall cfg 41 [sl1 l, vi m] [] [] (sl1 (l.take m)) [] := by
  (refine VCall.mk (fn := a41) rfl rfl rfl ?_; simp only [a41, inV, mkB, nmsL, PT.set])
  (repeat (first | refine VC.seq ?_ | refine VC.block ?_ | refine VC.kill ?_ | refine VC.skip ?_ | refine VC.exit ?_ | refine VC.regA ?_ | refine VC.condT ?_ | refine VC.condF ?_))
  refine VC.ret (Fin.frzA p13 (Fin.A ?_))
  exact sl1_take l m
theorem okJ_iff (a : List Int) : okJ a ↔ (∀ x ∈ a, 1 ≤ x ∧ x ≤ 12) ∧ 1 ≤ a.length ∧ a.length ≤ 4 := by
  refine ⟨fun h => ⟨okJ_mem h, h.1, h.2.1⟩, fun ⟨h, h1, h4⟩ => ⟨h1, h4, ?_, ?_⟩⟩
  · unfold minL
    have : ∀ (a : List Int) (m : Int), 1 ≤ m → (∀ x ∈ a, 1 ≤ x) → 1 ≤ a.foldl min m := by
      intro a
      induction a with
      | nil => intro m h _; exact h
      | cons y a ih => intro m h hx; exact ih _ (by have := hx y (by simp); omega) (fun x h => hx x (List.mem_cons_of_mem _ h))
    refine this a _ ?_ (fun x hx => (h x hx).1)
    cases a with
    | nil => simp at h1
    | cons y q => exact (h y (by simp)).1
  · unfold maxL
    have : ∀ (a : List Int) (m : Int), m ≤ 12 → (∀ x ∈ a, x ≤ 12) → a.foldl max m ≤ 12 := by
      intro a
      induction a with
      | nil => intro m h _; exact h
      | cons y a ih => intro m h hx; exact ih _ (by have := hx y (by simp); omega) (fun x h => hx x (List.mem_cons_of_mem _ h))
    refine this a _ ?_ (fun x hx => (h x hx).2)
    cases a with
    | nil => simp at h1
    | cons y q => exact (h y (by simp)).2
def fillB (x f : List Int) : Bool := f.length == x.length && (f.zip x).all (fun q => decide (0 ≤ q.1) && decide (q.1 ≤ q.2))
theorem fillB_iff (x f : List Int) : fillB x f = true ↔ f.length = x.length ∧ ∀ (i : Nat) (h : i < f.length) (h' : i < x.length), 0 ≤ f[i] ∧ f[i] ≤ x[i] := by
  unfold fillB
  rw [Bool.and_eq_true, beq_iff_eq, List.all_eq_true]
  constructor
  · rintro ⟨h1, h2⟩
    refine ⟨h1, fun i h h' => ?_⟩
    have := h2 (f[i], x[i]) (by rw [← List.getElem_zip (h := by simp; omega)]; exact List.getElem_mem _)
    simpa using this
  · rintro ⟨h1, h2⟩
    refine ⟨h1, fun q hq => ?_⟩
    obtain ⟨i, hi, rfl⟩ := List.mem_iff_getElem.1 hq
    rw [List.length_zip] at hi
    have := h2 i (by omega) (by omega)
    simpa [List.getElem_zip] using this
end Go.Ab.Jug

namespace Go.Ab.Jug
open Go.Ab.V
set_option maxRecDepth 100000
def pad4 (x : List Int) : List Int := x ++ List.replicate (4 - x.length) 0
/-- Jugs in memory: their number, the sizes, closed or not. -/
def jugC (x : List Int) (c : Bool) : List PV := pi x.length :: ((pad4 x).map pi ++ [.at (.bool c)])
def jugP (x : List Int) (c : Bool) : VV := .p (.fp 0 (jugC x c))
def nilP : VV := .p (.at (.pointer none))
theorem put_pad (x : List Int) (h : x.length ≤ 4) (n : Int) (c : VV) : putC [vi n, vi 0, vi 0, vi 0, vi 0, c] 1 (x.map vi) = vi n :: ((pad4 x).map vi ++ [c]) := by
  rcases x with _ | ⟨a, _ | ⟨b, _ | ⟨d, _ | ⟨e, _ | ⟨f, r⟩⟩⟩⟩⟩ <;> first | rfl | simp at h
theorem jug_pvs (x : List Int) (h : x.length ≤ 4) (c : Bool) : toPVs (vi x.length :: ((pad4 x).map vi ++ [vb c])) = some (jugC x c) := by
  rcases x with _ | ⟨a, _ | ⟨b, _ | ⟨d, _ | ⟨e, _ | ⟨f, r⟩⟩⟩⟩⟩ <;> first | rfl | simp at h
theorem open_no (x : List Int) (hl : x.length ≤ 9223372036854775807) (h : ¬okJ x) (c : Bool) (v : VV) : VCall cfg 46 [sl1 x, vb c, v] [] [] (.tup [nilP, vi 20]) [] := by
  have hc := Check_ok x hl
  rw [if_neg h] at hc
  (refine VCall.mk (fn := a46) rfl rfl rfl ?_; simp only [a46, inV, mkB, nmsL, PT.set])
  (repeat (first | refine VC.seq ?_ | refine VC.block ?_ | refine VC.kill ?_ | refine VC.skip ?_ | refine VC.exit ?_ | refine VC.regA ?_ | refine VC.condT ?_ | refine VC.condF ?_))
  refine VC.regCA ?_
  refine VO.call0A (no_orc 43 (by decide)) hc ?_
  refine VO.endA ?_
  (repeat (first | refine VC.seq ?_ | refine VC.block ?_ | refine VC.kill ?_ | refine VC.skip ?_ | refine VC.exit ?_ | refine VC.regA ?_ | refine VC.condT ?_ | refine VC.condF ?_))
  exact VC.ret (Fin.A rfl)
theorem open_ok (x : List Int) (h : okJ x) (c : Bool) (fs : List (List Int)) (hf : ∀ f ∈ fs, f.length ≤ 9223372036854775807) (hfs : fs.length < 100) :
    VCall cfg 46 [sl1 x, vb c, sl2 fs] [] [] (.tup [if fs.all (fillB x) then jugP x c else nilP, vi (if fs.all (fillB x) then 0 else 1)]) [] := by
  have hl : x.length ≤ 9223372036854775807 := by have := h.2.1; omega
  have hc := Check_ok x hl
  rw [if_pos h] at hc
  have h4 := h.2.1
  generalize hr : fs.all (fillB x) = r
  (refine VCall.mk (fn := a46) rfl rfl rfl ?_; simp only [a46, inV, mkB, nmsL, PT.set])
  (repeat (first | refine VC.seq ?_ | refine VC.block ?_ | refine VC.kill ?_ | refine VC.skip ?_ | refine VC.exit ?_ | refine VC.regA ?_ | refine VC.condT ?_ | refine VC.condF ?_))
  refine VC.regCA ?_
  refine VO.call0A (no_orc 43 (by decide)) hc ?_
  refine VO.endA ?_
  (repeat (first | refine VC.seq ?_ | refine VC.block ?_ | refine VC.kill ?_ | refine VC.skip ?_ | refine VC.exit ?_ | refine VC.regA ?_ | refine VC.condT ?_ | refine VC.condF ?_))
  have h1 : List.take x.length (x.map vi) = x.map vi := List.take_of_length_le (by simp)
  have h2 : (x.map vi).all okV = true := by simp [vi, okV, noref, nos]
  have h3 : 1 + x.length ≤ 1 + 1 + 1 + 1 + 1 + 1 := by omega
  have h6 := put_pad x h4 x.length (vb c)
  simp only [vi, vb] at h6
  apply VC.regU
  · (simp (config := {decide := false, maxSteps := 1000000}) (disch := omega) only [vev_call, putC_c0, putC_n0, putC_cs, ble0, List.getElem?_cons_zero, List.getElem?_cons_succ, runU, isCall, wantV, vev, evV, ofVal, ofAtom, atomB, cond_true, cond_false, PT.get, PT.set, PT.filt, PT.map, Option.getD_some, Option.getD_none, ret1V, ret1X, v_ld, v_ias, v_iad, v_fad, v_slsl, v_slarr, v_st, v_app, v_cpy, v_len, v_look, v_mset, elsV, partV, newV, free, atV, atI, atL, toVal, cellsV, okV, VSt.put, VSt.kill, VSt.alloc, VSt.frz, VSt.adopt, noref, norefB, deadB, deadV, nos, nm, nmL, nmB, nmE, Pa.eqb, Bool.not_false, Bool.not_true, Bool.and_true, Bool.true_and, Bool.false_and, Bool.and_false, bin, intOps, intBin, cvt, un, goInt, bndsV, bndV, Option.map_some, Option.map_none, List.map_cons, List.map_nil, Int.toNat_natCast, Nat.mul_one, Nat.zero_add, beq_true, beq_false, beq_self_eq_true, List.length_map, List.length_cons, List.length_nil, List.length_append, fillV, pEvV, repsV, List.append_nil, List.nil_append, if_pos, if_neg, reduceIte, List.getElem?_map, List.getElem?_drop, Nat.add_zero, List.getElem?_eq_getElem, Go.IntWalk.i64_in, wrap_u64, tmod_pos, eq_self, true_and, and_true, and_self, List.all_cons, List.all_nil, nmL_vi, flV_len, flP_len, flV_nm, flV_ok, flV_pv, flP_map, drop_flP, drop_flV, putC_flV, eqV2, eqV3, bneT, bneF, decide_true, decide_false, frzL_vi, frzL_flV, nmE_ag, nmE_at, frzE_ag, frzE_at, ofAg_len, ofAt_len, atL_vi, nmL_map_p, frzL_map_p, okL_p, toPVs_p, repsZ, nmL_reps, putC_vi, get_flV0, get_flV1, Int.toNat_zero, Int.toNat_one, Int.reduceToNat, eqV_slice, eqV_ptr, eqV_func, nilS, nilP, nilF, nmL_append, okL_vi, toPVs_vi, toPVs, toPV, frzV, frzL, frzB, resVV, vi, vb, nilV, sl1, bl1, pi, foldV, max2, min2, max_eq, min_eq, Int.tdiv_eq_ediv_of_nonneg, Int.cast_ofNat_Int, Option.isSome_none, Option.isSome_some, Option.isNone_none, Option.isNone_some, and_false, false_and, sl2, sl1P, slP, min_cast, take_map_pi, map_pi, Nat.sub_zero, Nat.zero_mul, List.length_take, decide_eq_true, decide_eq_false, Bool.true_eq_false, Bool.false_eq_true, beqT, beqF, ibeq, ibne, List.take_zero, List.take_succ_cons, List.drop_zero, List.drop_succ_cons, List.drop_nil, List.take_nil, List.cons_append, Bool.not_true, Bool.not_false, true_or, or_true, if_true, h1, h2, h3, ne_eq, true_and, and_true, Nat.succ_ne_self, not_false_eq_true, reduceCtorEq, Nat.one_ne_zero, Nat.min_eq_left h4, h6])
    rfl
  (repeat (first | refine VC.seq ?_ | refine VC.block ?_ | refine VC.kill ?_ | refine VC.skip ?_ | refine VC.exit ?_ | refine VC.regA ?_ | refine VC.condT ?_ | refine VC.condF ?_))
  refine VC.loopG (fun (i : Nat) => ⟨inV [p0, p9, p30, p31, p32] [sl1 x, .op 0 p23 0, sl2 fs, vi fs.length, vi i] .lf, mkB [(p23, .cells (vi x.length :: ((pad4 x).map vi ++ [vb c])))] .lf, [], none⟩) (fun n i => n = fs.length - i ∧ i ≤ fs.length ∧ (fs.take i).all (fillB x) = true) (x := 0) ?_ ⟨rfl, by omega, by simp⟩ ?_
  · (apply Go.Ab.V.G.weak; constructor <;> simp (config := {decide := true}) only [PT.Le, inV, mkB, PT.set, VSt.kill, VSt.adopt, VSt.alloc, PT.filt, PT.map, List.map_cons, List.map_nil, noref, norefB, deadB, deadV, nos, nm, nmL, nmB, nmE, Pa.eqb, cond_true, cond_false, Bool.not_true, Bool.not_false, Bool.and_true, Bool.true_and, nmL_vi, flV_len, flP_len, flV_nm, flV_ok, flV_pv, flP_map, drop_flP, drop_flV, putC_flV, eqV2, eqV3, bneT, bneF, decide_true, decide_false, frzL_vi, frzL_flV, nmE_ag, nmE_at, frzE_ag, frzE_at, ofAg_len, ofAt_len, atL_vi, nmL_map_p, frzL_map_p, okL_p, toPVs_p, repsZ, nmL_reps, putC_vi, get_flV0, get_flV1, Int.toNat_zero, Int.toNat_one, Int.reduceToNat, eqV_slice, eqV_ptr, eqV_func, nilS, nilP, nilF, nmL_append, true_or, or_true, and_self, true_and, and_true, Option.some.injEq, reduceCtorEq, false_or, or_false, VV.p.injEq, PV.at.injEq, Value.int.injEq, sl1, vi, bl1, vb, nilV]); rfl
  rintro n i ⟨hn, hi, hx⟩
  simp only [inV, PT.set, mkB]
  (repeat (first | refine VC.seq ?_ | refine VC.block ?_ | refine VC.kill ?_ | refine VC.skip ?_ | refine VC.exit ?_ | refine VC.regA ?_ | refine VC.condT ?_ | refine VC.condF ?_))
  refine VC.condA ?_ ?_ <;> intro h <;> (simp only [decide_eq_true_eq, decide_eq_false_iff_not, bne_iff_ne, ne_eq, bne_eq_false_iff_eq, beq_iff_eq, beq_eq_false_iff_ne, Bool.not_eq_true', Bool.not_eq_false', Bool.and_eq_true, Bool.or_eq_true, Int.natCast_inj] at h)
  · have h : i < fs.length := by omega
    have hfi := hf _ (List.getElem_mem h)
    (repeat (first | refine VC.seq ?_ | refine VC.block ?_ | refine VC.kill ?_ | refine VC.skip ?_ | refine VC.exit ?_ | refine VC.regA ?_ | refine VC.condT ?_ | refine VC.condF ?_))
    try simp only [PT.set]
    have hnot : fillB x fs[i] = false → fs.all (fillB x) = false := fun hb => by
      rw [← Bool.not_eq_true, List.all_eq_true]
      exact fun ha => by have := ha _ (List.getElem_mem h); rw [hb] at this; simp at this
    refine VC.condA ?_ ?_ <;> intro h5 <;> (simp only [decide_eq_true_eq, decide_eq_false_iff_not, bne_iff_ne, ne_eq, bne_eq_false_iff_eq, beq_iff_eq, beq_eq_false_iff_ne, Bool.not_eq_true', Bool.not_eq_false', Bool.and_eq_true, Bool.or_eq_true, Int.natCast_inj] at h5)
    · (repeat (first | refine VC.seq ?_ | refine VC.block ?_ | refine VC.kill ?_ | refine VC.skip ?_ | refine VC.exit ?_ | refine VC.regA ?_ | refine VC.condT ?_ | refine VC.condF ?_))
      have : fillB x fs[i] = false := by rw [← Bool.not_eq_true, fillB_iff]; exact fun h => h5 h.1
      obtain rfl := hr.symm.trans (hnot this)
      exact VC.ret (Fin.A rfl)
    have h5 : fs[i].length = x.length := by omega
    (repeat (first | refine VC.seq ?_ | refine VC.block ?_ | refine VC.kill ?_ | refine VC.skip ?_ | refine VC.exit ?_ | refine VC.regA ?_ | refine VC.condT ?_ | refine VC.condF ?_))
    refine VC.loopG (fun (k : Nat) => ⟨inV [p0, p9, p30, p31, p32, p43, p44, p45] [sl1 x, .op 0 p23 0, sl2 fs, vi fs.length, vi i, sl1 fs[i], vi fs[i].length, vi k] .lf, mkB [(p23, .cells (vi x.length :: ((pad4 x).map vi ++ [vb c])))] .lf, [], none⟩) (fun n k => n = fs[i].length - k ∧ k ≤ fs[i].length ∧ ∀ (q : Nat) (h : q < fs[i].length) (h' : q < x.length), q < k → 0 ≤ fs[i][q] ∧ fs[i][q] ≤ x[q]) (x := 0) ?_ ⟨rfl, by omega, fun k _ _ h => by omega⟩ ?_
    · (apply Go.Ab.V.G.weak; constructor <;> simp (config := {decide := true}) only [PT.Le, inV, mkB, PT.set, VSt.kill, VSt.adopt, VSt.alloc, PT.filt, PT.map, List.map_cons, List.map_nil, noref, norefB, deadB, deadV, nos, nm, nmL, nmB, nmE, Pa.eqb, cond_true, cond_false, Bool.not_true, Bool.not_false, Bool.and_true, Bool.true_and, nmL_vi, flV_len, flP_len, flV_nm, flV_ok, flV_pv, flP_map, drop_flP, drop_flV, putC_flV, eqV2, eqV3, bneT, bneF, decide_true, decide_false, frzL_vi, frzL_flV, nmE_ag, nmE_at, frzE_ag, frzE_at, ofAg_len, ofAt_len, atL_vi, nmL_map_p, frzL_map_p, okL_p, toPVs_p, repsZ, nmL_reps, putC_vi, get_flV0, get_flV1, Int.toNat_zero, Int.toNat_one, Int.reduceToNat, eqV_slice, eqV_ptr, eqV_func, nilS, nilP, nilF, nmL_append, true_or, or_true, and_self, true_and, and_true, Option.some.injEq, reduceCtorEq, false_or, or_false, VV.p.injEq, PV.at.injEq, Value.int.injEq, sl1, vi, bl1, vb, nilV]); rfl
    rintro m k ⟨hm, hk, hkx⟩
    simp only [inV, PT.set, mkB]
    (repeat (first | refine VC.seq ?_ | refine VC.block ?_ | refine VC.kill ?_ | refine VC.skip ?_ | refine VC.exit ?_ | refine VC.regA ?_ | refine VC.condT ?_ | refine VC.condF ?_))
    refine VC.condA ?_ ?_ <;> intro h7 <;> (simp only [decide_eq_true_eq, decide_eq_false_iff_not, bne_iff_ne, ne_eq, bne_eq_false_iff_eq, beq_iff_eq, beq_eq_false_iff_ne, Bool.not_eq_true', Bool.not_eq_false', Bool.and_eq_true, Bool.or_eq_true, Int.natCast_inj] at h7)
    · have h7 : k < fs[i].length := by omega
      have h8 : k < x.length := by omega
      have hno : (fs[i][k] < 0 ∨ x[k] < fs[i][k]) → fs.all (fillB x) = false := fun hb => hnot (by
        rw [← Bool.not_eq_true, fillB_iff]
        intro hk
        have := hk.2 k h7 h8
        omega)
      by_cases g1 : fs[i][k] < 0
      · (repeat (first | refine VC.seq ?_ | refine VC.block ?_ | refine VC.kill ?_ | refine VC.skip ?_ | refine VC.exit ?_ | refine VC.regA ?_ | refine VC.condT ?_ | refine VC.condF ?_))
        obtain rfl := hr.symm.trans (hno (.inl g1))
        exact VC.ret (Fin.A rfl)
      by_cases g2 : x[k] < fs[i][k]
      · (repeat (first | refine VC.seq ?_ | refine VC.block ?_ | refine VC.kill ?_ | refine VC.skip ?_ | refine VC.exit ?_ | refine VC.regA ?_ | refine VC.condT ?_ | refine VC.condF ?_))
        obtain rfl := hr.symm.trans (hno (.inr g2))
        exact VC.ret (Fin.A rfl)
      (repeat (first | refine VC.seq ?_ | refine VC.block ?_ | refine VC.kill ?_ | refine VC.skip ?_ | refine VC.exit ?_ | refine VC.regA ?_ | refine VC.condT ?_ | refine VC.condF ?_))
      refine ⟨_, k + 1, ?_, ⟨rfl, by omega, ?_⟩, ?_⟩
      · omega
      · intro q hq hq' hlt
        rcases Nat.lt_or_ge q k with h3 | h3
        · exact hkx q hq hq' h3
        · have : q = k := by omega
          subst this; omega
      · (apply Go.Ab.V.G.weak; constructor <;> simp (config := {decide := true}) only [PT.Le, inV, mkB, PT.set, VSt.kill, VSt.adopt, VSt.alloc, PT.filt, PT.map, List.map_cons, List.map_nil, noref, norefB, deadB, deadV, nos, nm, nmL, nmB, nmE, Pa.eqb, cond_true, cond_false, Bool.not_true, Bool.not_false, Bool.and_true, Bool.true_and, nmL_vi, flV_len, flP_len, flV_nm, flV_ok, flV_pv, flP_map, drop_flP, drop_flV, putC_flV, eqV2, eqV3, bneT, bneF, decide_true, decide_false, frzL_vi, frzL_flV, nmE_ag, nmE_at, frzE_ag, frzE_at, ofAg_len, ofAt_len, atL_vi, nmL_map_p, frzL_map_p, okL_p, toPVs_p, repsZ, nmL_reps, putC_vi, get_flV0, get_flV1, Int.toNat_zero, Int.toNat_one, Int.reduceToNat, eqV_slice, eqV_ptr, eqV_func, nilS, nilP, nilF, nmL_append, true_or, or_true, and_self, true_and, and_true, Option.some.injEq, reduceCtorEq, false_or, or_false, VV.p.injEq, PV.at.injEq, Value.int.injEq, sl1, vi, bl1, vb, nilV, sl2]); rfl
    · (repeat (first | refine VC.seq ?_ | refine VC.block ?_ | refine VC.kill ?_ | refine VC.skip ?_ | refine VC.exit ?_ | refine VC.regA ?_ | refine VC.condT ?_ | refine VC.condF ?_))
      refine ⟨_, i + 1, ?_, ⟨rfl, by omega, ?_⟩, ?_⟩
      · omega
      · rw [List.take_add_one, List.getElem?_eq_getElem h, List.all_append, hx]
        simp only [Option.toList_some, List.all_cons, List.all_nil, Bool.and_true, Bool.true_and]
        exact (fillB_iff _ _).2 ⟨h5, fun q hq hq' => hkx q hq hq' (by omega)⟩
      · (apply Go.Ab.V.G.weak; constructor <;> simp (config := {decide := true}) only [PT.Le, inV, mkB, PT.set, VSt.kill, VSt.adopt, VSt.alloc, PT.filt, PT.map, List.map_cons, List.map_nil, noref, norefB, deadB, deadV, nos, nm, nmL, nmB, nmE, Pa.eqb, cond_true, cond_false, Bool.not_true, Bool.not_false, Bool.and_true, Bool.true_and, nmL_vi, flV_len, flP_len, flV_nm, flV_ok, flV_pv, flP_map, drop_flP, drop_flV, putC_flV, eqV2, eqV3, bneT, bneF, decide_true, decide_false, frzL_vi, frzL_flV, nmE_ag, nmE_at, frzE_ag, frzE_at, ofAg_len, ofAt_len, atL_vi, nmL_map_p, frzL_map_p, okL_p, toPVs_p, repsZ, nmL_reps, putC_vi, get_flV0, get_flV1, Int.toNat_zero, Int.toNat_one, Int.reduceToNat, eqV_slice, eqV_ptr, eqV_func, nilS, nilP, nilF, nmL_append, true_or, or_true, and_self, true_and, and_true, Option.some.injEq, reduceCtorEq, false_or, or_false, VV.p.injEq, PV.at.injEq, Value.int.injEq, sl1, vi, bl1, vb, nilV, sl2]); rfl
  · rw [List.take_of_length_le (by omega)] at hx
    obtain rfl := hr.symm.trans hx
    (repeat (first | refine VC.seq ?_ | refine VC.block ?_ | refine VC.kill ?_ | refine VC.skip ?_ | refine VC.exit ?_ | refine VC.regA ?_ | refine VC.condT ?_ | refine VC.condF ?_))
    exact VC.ret (Fin.frzA p23 (hb := rfl) (hc := jug_pvs x h4 c) (Fin.A rfl))
end Go.Ab.Jug

namespace Go.Ab.Jug
open Go.Ab.V
set_option maxRecDepth 100000
def openV (x : List Int) (fs : List (List Int)) : Int := if okJ x then (if fs.all (fillB x) then 0 else 1) else 20
def openJ (x : List Int) (c : Bool) (fs : List (List Int)) : VV := if openV x fs = 0 then jugP x c else nilP
theorem opens (x : List Int) (c : Bool) (fs : List (List Int)) (hl : x.length ≤ 9223372036854775807) (hf : ∀ f ∈ fs, f.length ≤ 9223372036854775807) (hfs : fs.length < 100) :
    VCall cfg 46 [sl1 x, vb c, sl2 fs] [] [] (.tup [openJ x c fs, vi (openV x fs)]) [] := by
  unfold openJ openV
  by_cases h : okJ x
  · have := open_ok x h c fs hf hfs
    rw [if_pos h]
    cases hr : fs.all (fillB x) with
    | true => rw [hr] at this; exact this
    | false => rw [hr] at this; exact this
  · rw [if_neg h]
    exact open_no x hl h c _
end Go.Ab.Jug

namespace Go.Ab.Jug
open Go.Ab.V
set_option maxRecDepth 100000
def jugQ (n : Nat) (q0 q1 q2 q3 : Int) (c : Bool) : List PV := [pi n, pi q0, pi q1, pi q2, pi q3, .at (.bool c)]
def inR (n : Nat) (i : Int) : Bool := decide (-1 ≤ i ∧ i < n)
section
variable {n : Nat} {q0 q1 q2 q3 : Int} {c : Bool} {a b : Int}
theorem is1_ok {i : Int} (hi : -9223372036854775808 ≤ i ∧ i ≤ 9223372036854775807) (hx : n ≤ 4) : VCall cfg 72 [vi i, .p (.fp 0 [.fp 0 (jugQ n q0 q1 q2 q3 c)])] [] [] (vb (inR n i)) [] := by
  (refine VCall.mk (fn := a72) rfl rfl rfl ?_; simp only [a72, inV, mkB, nmsL, PT.set])
  simp only [jugQ]
  (repeat (first | refine VC.seq ?_ | refine VC.block ?_ | refine VC.kill ?_ | refine VC.skip ?_ | refine VC.exit ?_ | refine VC.regA ?_ | refine VC.condT ?_ | refine VC.condF ?_))
  by_cases h1 : i < -1
  · (repeat (first | refine VC.seq ?_ | refine VC.block ?_ | refine VC.kill ?_ | refine VC.skip ?_ | refine VC.exit ?_ | refine VC.regA ?_ | refine VC.condT ?_ | refine VC.condF ?_))
    refine VC.ret (Fin.A ?_)
    rw [inR, decide_eq_false (by omega)]; rfl
  have h1 : -1 ≤ i := by omega
  (repeat (first | refine VC.seq ?_ | refine VC.block ?_ | refine VC.kill ?_ | refine VC.skip ?_ | refine VC.exit ?_ | refine VC.regA ?_ | refine VC.condT ?_ | refine VC.condF ?_))
  refine VC.ret (Fin.A ?_)
  have : inR n i = decide (i < n) := by rw [inR, decide_eq_decide]; omega
  rw [this]; rfl
def ag2 (a b : Int) : VV := .agg [vi a, vi b]
def ag4 (f0 f1 f2 f3 : Int) : VV := .agg [vi f0, vi f1, vi f2, vi f3]
def isS (n : Nat) (c : Bool) (a b : Int) : Bool := inR n a && inR n b && decide (a ≠ b) && (!c || (decide (a ≠ -1) && decide (b ≠ -1)))
theorem is_ok (ha : -9223372036854775808 ≤ a ∧ a ≤ 9223372036854775807) (hb : -9223372036854775808 ≤ b ∧ b ≤ 9223372036854775807) (hx : n ≤ 4) :
    VCall cfg 61 [ag2 a b, .p (.fp 0 (jugQ n q0 q1 q2 q3 c))] [] [] (vb (isS n c a b)) [] := by
  have k1 := is1_ok (n := n) (q0 := q0) (q1 := q1) (q2 := q2) (q3 := q3) (c := c) ha hx
  have k2 := is1_ok (n := n) (q0 := q0) (q1 := q1) (q2 := q2) (q3 := q3) (c := c) hb hx
  (refine VCall.mk (fn := a61) rfl rfl rfl ?_; simp only [a61, inV, mkB, nmsL, PT.set])
  simp only [ag2, jugQ] at *
  (repeat (first | refine VC.seq ?_ | refine VC.block ?_ | refine VC.kill ?_ | refine VC.skip ?_ | refine VC.exit ?_ | refine VC.regA ?_ | refine VC.condT ?_ | refine VC.condF ?_))
  refine VC.frzA p3 ?_
  refine VC.regCA ?_
  refine VO.moreA ?_
  refine VO.call0A (no_orc 72 (by decide)) k1 ?_
  cases h1 : inR n a with
  | false =>
    (apply VO.uptoE; · ((repeat (rw [runU_cons]; (simp (config := {decide := false, maxSteps := 1000000}) (disch := omega) only [vev_call, putC_c0, putC_n0, putC_cs, ble0, List.getElem?_cons_zero, List.getElem?_cons_succ, isCall, wantV, vev, evV, ofVal, ofAtom, atomB, cond_true, cond_false, PT.get, PT.set, PT.filt, PT.map, Option.getD_some, Option.getD_none, ret1V, ret1X, v_ld, v_ias, v_iad, v_fad, v_slsl, v_slarr, v_st, v_app, v_cpy, v_len, v_look, v_mset, elsV, partV, newV, free, atV, atI, atL, toVal, cellsV, okV, VSt.put, VSt.kill, VSt.alloc, VSt.frz, VSt.adopt, noref, norefB, deadB, deadV, nos, nm, nmL, nmB, nmE, Pa.eqb, Bool.not_false, Bool.not_true, Bool.and_true, Bool.true_and, Bool.false_and, Bool.and_false, bin, intOps, intBin, cvt, un, goInt, bndsV, bndV, Option.map_some, Option.map_none, List.map_cons, List.map_nil, Int.toNat_natCast, Nat.mul_one, Nat.zero_add, beq_true, beq_false, beq_self_eq_true, List.length_map, List.length_cons, List.length_nil, List.length_append, fillV, pEvV, repsV, List.append_nil, List.nil_append, if_pos, if_neg, reduceIte, List.getElem?_map, List.getElem?_drop, Nat.add_zero, List.getElem?_eq_getElem, Go.IntWalk.i64_in, wrap_u64, tmod_pos, eq_self, true_and, and_true, and_self, List.all_cons, List.all_nil, nmL_vi, flV_len, flP_len, flV_nm, flV_ok, flV_pv, flP_map, drop_flP, drop_flV, putC_flV, eqV2, eqV3, bneT, bneF, decide_true, decide_false, frzL_vi, frzL_flV, nmE_ag, nmE_at, frzE_ag, frzE_at, ofAg_len, ofAt_len, atL_vi, nmL_map_p, frzL_map_p, okL_p, toPVs_p, repsZ, nmL_reps, putC_vi, get_flV0, get_flV1, Int.toNat_zero, Int.toNat_one, Int.reduceToNat, eqV_slice, eqV_ptr, eqV_func, nilS, nilP, nilF, nmL_append, okL_vi, toPVs_vi, toPVs, toPV, frzV, frzL, frzB, resVV, vi, vb, nilV, sl1, bl1, pi, foldV, max2, min2, max_eq, min_eq, Int.tdiv_eq_ediv_of_nonneg, Int.cast_ofNat_Int, Option.isSome_none, Option.isSome_some, Option.isNone_none, Option.isNone_some, and_false, false_and, sl2, sl1P, slP, min_cast, take_map_pi, map_pi, Nat.sub_zero, Nat.zero_mul, List.length_take, decide_eq_true, decide_eq_false, Bool.true_eq_false, Bool.false_eq_true, beqT, beqF, ibeq, ibne, List.take_zero, List.take_succ_cons, List.drop_zero, List.drop_succ_cons, List.drop_nil, List.take_nil, List.cons_append, Bool.not_true, Bool.not_false]))); rfl))
    (repeat (first | refine VC.seq ?_ | refine VC.block ?_ | refine VC.kill ?_ | refine VC.skip ?_ | refine VC.exit ?_ | refine VC.regA ?_ | refine VC.condT ?_ | refine VC.condF ?_))
    refine VC.ret (Fin.A ?_); simp [isS, h1]; rfl
  | true =>
  (apply VO.upto; · ((repeat (rw [runU_cons]; (simp (config := {decide := false, maxSteps := 1000000}) (disch := omega) only [vev_call, putC_c0, putC_n0, putC_cs, ble0, List.getElem?_cons_zero, List.getElem?_cons_succ, isCall, wantV, vev, evV, ofVal, ofAtom, atomB, cond_true, cond_false, PT.get, PT.set, PT.filt, PT.map, Option.getD_some, Option.getD_none, ret1V, ret1X, v_ld, v_ias, v_iad, v_fad, v_slsl, v_slarr, v_st, v_app, v_cpy, v_len, v_look, v_mset, elsV, partV, newV, free, atV, atI, atL, toVal, cellsV, okV, VSt.put, VSt.kill, VSt.alloc, VSt.frz, VSt.adopt, noref, norefB, deadB, deadV, nos, nm, nmL, nmB, nmE, Pa.eqb, Bool.not_false, Bool.not_true, Bool.and_true, Bool.true_and, Bool.false_and, Bool.and_false, bin, intOps, intBin, cvt, un, goInt, bndsV, bndV, Option.map_some, Option.map_none, List.map_cons, List.map_nil, Int.toNat_natCast, Nat.mul_one, Nat.zero_add, beq_true, beq_false, beq_self_eq_true, List.length_map, List.length_cons, List.length_nil, List.length_append, fillV, pEvV, repsV, List.append_nil, List.nil_append, if_pos, if_neg, reduceIte, List.getElem?_map, List.getElem?_drop, Nat.add_zero, List.getElem?_eq_getElem, Go.IntWalk.i64_in, wrap_u64, tmod_pos, eq_self, true_and, and_true, and_self, List.all_cons, List.all_nil, nmL_vi, flV_len, flP_len, flV_nm, flV_ok, flV_pv, flP_map, drop_flP, drop_flV, putC_flV, eqV2, eqV3, bneT, bneF, decide_true, decide_false, frzL_vi, frzL_flV, nmE_ag, nmE_at, frzE_ag, frzE_at, ofAg_len, ofAt_len, atL_vi, nmL_map_p, frzL_map_p, okL_p, toPVs_p, repsZ, nmL_reps, putC_vi, get_flV0, get_flV1, Int.toNat_zero, Int.toNat_one, Int.reduceToNat, eqV_slice, eqV_ptr, eqV_func, nilS, nilP, nilF, nmL_append, okL_vi, toPVs_vi, toPVs, toPV, frzV, frzL, frzB, resVV, vi, vb, nilV, sl1, bl1, pi, foldV, max2, min2, max_eq, min_eq, Int.tdiv_eq_ediv_of_nonneg, Int.cast_ofNat_Int, Option.isSome_none, Option.isSome_some, Option.isNone_none, Option.isNone_some, and_false, false_and, sl2, sl1P, slP, min_cast, take_map_pi, map_pi, Nat.sub_zero, Nat.zero_mul, List.length_take, decide_eq_true, decide_eq_false, Bool.true_eq_false, Bool.false_eq_true, beqT, beqF, ibeq, ibne, List.take_zero, List.take_succ_cons, List.drop_zero, List.drop_succ_cons, List.drop_nil, List.take_nil, List.cons_append, Bool.not_true, Bool.not_false]))); rfl))
  refine VO.call0A (no_orc 72 (by decide)) k2 ?_
  cases h2 : inR n b with
  | false =>
    (apply VO.uptoE; · ((repeat (rw [runU_cons]; (simp (config := {decide := false, maxSteps := 1000000}) (disch := omega) only [vev_call, putC_c0, putC_n0, putC_cs, ble0, List.getElem?_cons_zero, List.getElem?_cons_succ, isCall, wantV, vev, evV, ofVal, ofAtom, atomB, cond_true, cond_false, PT.get, PT.set, PT.filt, PT.map, Option.getD_some, Option.getD_none, ret1V, ret1X, v_ld, v_ias, v_iad, v_fad, v_slsl, v_slarr, v_st, v_app, v_cpy, v_len, v_look, v_mset, elsV, partV, newV, free, atV, atI, atL, toVal, cellsV, okV, VSt.put, VSt.kill, VSt.alloc, VSt.frz, VSt.adopt, noref, norefB, deadB, deadV, nos, nm, nmL, nmB, nmE, Pa.eqb, Bool.not_false, Bool.not_true, Bool.and_true, Bool.true_and, Bool.false_and, Bool.and_false, bin, intOps, intBin, cvt, un, goInt, bndsV, bndV, Option.map_some, Option.map_none, List.map_cons, List.map_nil, Int.toNat_natCast, Nat.mul_one, Nat.zero_add, beq_true, beq_false, beq_self_eq_true, List.length_map, List.length_cons, List.length_nil, List.length_append, fillV, pEvV, repsV, List.append_nil, List.nil_append, if_pos, if_neg, reduceIte, List.getElem?_map, List.getElem?_drop, Nat.add_zero, List.getElem?_eq_getElem, Go.IntWalk.i64_in, wrap_u64, tmod_pos, eq_self, true_and, and_true, and_self, List.all_cons, List.all_nil, nmL_vi, flV_len, flP_len, flV_nm, flV_ok, flV_pv, flP_map, drop_flP, drop_flV, putC_flV, eqV2, eqV3, bneT, bneF, decide_true, decide_false, frzL_vi, frzL_flV, nmE_ag, nmE_at, frzE_ag, frzE_at, ofAg_len, ofAt_len, atL_vi, nmL_map_p, frzL_map_p, okL_p, toPVs_p, repsZ, nmL_reps, putC_vi, get_flV0, get_flV1, Int.toNat_zero, Int.toNat_one, Int.reduceToNat, eqV_slice, eqV_ptr, eqV_func, nilS, nilP, nilF, nmL_append, okL_vi, toPVs_vi, toPVs, toPV, frzV, frzL, frzB, resVV, vi, vb, nilV, sl1, bl1, pi, foldV, max2, min2, max_eq, min_eq, Int.tdiv_eq_ediv_of_nonneg, Int.cast_ofNat_Int, Option.isSome_none, Option.isSome_some, Option.isNone_none, Option.isNone_some, and_false, false_and, sl2, sl1P, slP, min_cast, take_map_pi, map_pi, Nat.sub_zero, Nat.zero_mul, List.length_take, decide_eq_true, decide_eq_false, Bool.true_eq_false, Bool.false_eq_true, beqT, beqF, ibeq, ibne, List.take_zero, List.take_succ_cons, List.drop_zero, List.drop_succ_cons, List.drop_nil, List.take_nil, List.cons_append, Bool.not_true, Bool.not_false]))); rfl))
    (repeat (first | refine VC.seq ?_ | refine VC.block ?_ | refine VC.kill ?_ | refine VC.skip ?_ | refine VC.exit ?_ | refine VC.regA ?_ | refine VC.condT ?_ | refine VC.condF ?_))
    refine VC.ret (Fin.A ?_); simp [isS, h1, h2]; rfl
  | true =>
  by_cases h3 : a = b
  · (apply VO.uptoE; · ((repeat (rw [runU_cons]; (simp (config := {decide := false, maxSteps := 1000000}) (disch := omega) only [vev_call, putC_c0, putC_n0, putC_cs, ble0, List.getElem?_cons_zero, List.getElem?_cons_succ, isCall, wantV, vev, evV, ofVal, ofAtom, atomB, cond_true, cond_false, PT.get, PT.set, PT.filt, PT.map, Option.getD_some, Option.getD_none, ret1V, ret1X, v_ld, v_ias, v_iad, v_fad, v_slsl, v_slarr, v_st, v_app, v_cpy, v_len, v_look, v_mset, elsV, partV, newV, free, atV, atI, atL, toVal, cellsV, okV, VSt.put, VSt.kill, VSt.alloc, VSt.frz, VSt.adopt, noref, norefB, deadB, deadV, nos, nm, nmL, nmB, nmE, Pa.eqb, Bool.not_false, Bool.not_true, Bool.and_true, Bool.true_and, Bool.false_and, Bool.and_false, bin, intOps, intBin, cvt, un, goInt, bndsV, bndV, Option.map_some, Option.map_none, List.map_cons, List.map_nil, Int.toNat_natCast, Nat.mul_one, Nat.zero_add, beq_true, beq_false, beq_self_eq_true, List.length_map, List.length_cons, List.length_nil, List.length_append, fillV, pEvV, repsV, List.append_nil, List.nil_append, if_pos, if_neg, reduceIte, List.getElem?_map, List.getElem?_drop, Nat.add_zero, List.getElem?_eq_getElem, Go.IntWalk.i64_in, wrap_u64, tmod_pos, eq_self, true_and, and_true, and_self, List.all_cons, List.all_nil, nmL_vi, flV_len, flP_len, flV_nm, flV_ok, flV_pv, flP_map, drop_flP, drop_flV, putC_flV, eqV2, eqV3, bneT, bneF, decide_true, decide_false, frzL_vi, frzL_flV, nmE_ag, nmE_at, frzE_ag, frzE_at, ofAg_len, ofAt_len, atL_vi, nmL_map_p, frzL_map_p, okL_p, toPVs_p, repsZ, nmL_reps, putC_vi, get_flV0, get_flV1, Int.toNat_zero, Int.toNat_one, Int.reduceToNat, eqV_slice, eqV_ptr, eqV_func, nilS, nilP, nilF, nmL_append, okL_vi, toPVs_vi, toPVs, toPV, frzV, frzL, frzB, resVV, vi, vb, nilV, sl1, bl1, pi, foldV, max2, min2, max_eq, min_eq, Int.tdiv_eq_ediv_of_nonneg, Int.cast_ofNat_Int, Option.isSome_none, Option.isSome_some, Option.isNone_none, Option.isNone_some, and_false, false_and, sl2, sl1P, slP, min_cast, take_map_pi, map_pi, Nat.sub_zero, Nat.zero_mul, List.length_take, decide_eq_true, decide_eq_false, Bool.true_eq_false, Bool.false_eq_true, beqT, beqF, ibeq, ibne, List.take_zero, List.take_succ_cons, List.drop_zero, List.drop_succ_cons, List.drop_nil, List.take_nil, List.cons_append, Bool.not_true, Bool.not_false]))); rfl))
    (repeat (first | refine VC.seq ?_ | refine VC.block ?_ | refine VC.kill ?_ | refine VC.skip ?_ | refine VC.exit ?_ | refine VC.regA ?_ | refine VC.condT ?_ | refine VC.condF ?_))
    refine VC.ret (Fin.A ?_); simp [isS, h3]; rfl
  cases c with
  | false =>
    (apply VO.uptoE; · ((repeat (rw [runU_cons]; (simp (config := {decide := false, maxSteps := 1000000}) (disch := omega) only [vev_call, putC_c0, putC_n0, putC_cs, ble0, List.getElem?_cons_zero, List.getElem?_cons_succ, isCall, wantV, vev, evV, ofVal, ofAtom, atomB, cond_true, cond_false, PT.get, PT.set, PT.filt, PT.map, Option.getD_some, Option.getD_none, ret1V, ret1X, v_ld, v_ias, v_iad, v_fad, v_slsl, v_slarr, v_st, v_app, v_cpy, v_len, v_look, v_mset, elsV, partV, newV, free, atV, atI, atL, toVal, cellsV, okV, VSt.put, VSt.kill, VSt.alloc, VSt.frz, VSt.adopt, noref, norefB, deadB, deadV, nos, nm, nmL, nmB, nmE, Pa.eqb, Bool.not_false, Bool.not_true, Bool.and_true, Bool.true_and, Bool.false_and, Bool.and_false, bin, intOps, intBin, cvt, un, goInt, bndsV, bndV, Option.map_some, Option.map_none, List.map_cons, List.map_nil, Int.toNat_natCast, Nat.mul_one, Nat.zero_add, beq_true, beq_false, beq_self_eq_true, List.length_map, List.length_cons, List.length_nil, List.length_append, fillV, pEvV, repsV, List.append_nil, List.nil_append, if_pos, if_neg, reduceIte, List.getElem?_map, List.getElem?_drop, Nat.add_zero, List.getElem?_eq_getElem, Go.IntWalk.i64_in, wrap_u64, tmod_pos, eq_self, true_and, and_true, and_self, List.all_cons, List.all_nil, nmL_vi, flV_len, flP_len, flV_nm, flV_ok, flV_pv, flP_map, drop_flP, drop_flV, putC_flV, eqV2, eqV3, bneT, bneF, decide_true, decide_false, frzL_vi, frzL_flV, nmE_ag, nmE_at, frzE_ag, frzE_at, ofAg_len, ofAt_len, atL_vi, nmL_map_p, frzL_map_p, okL_p, toPVs_p, repsZ, nmL_reps, putC_vi, get_flV0, get_flV1, Int.toNat_zero, Int.toNat_one, Int.reduceToNat, eqV_slice, eqV_ptr, eqV_func, nilS, nilP, nilF, nmL_append, okL_vi, toPVs_vi, toPVs, toPV, frzV, frzL, frzB, resVV, vi, vb, nilV, sl1, bl1, pi, foldV, max2, min2, max_eq, min_eq, Int.tdiv_eq_ediv_of_nonneg, Int.cast_ofNat_Int, Option.isSome_none, Option.isSome_some, Option.isNone_none, Option.isNone_some, and_false, false_and, sl2, sl1P, slP, min_cast, take_map_pi, map_pi, Nat.sub_zero, Nat.zero_mul, List.length_take, decide_eq_true, decide_eq_false, Bool.true_eq_false, Bool.false_eq_true, beqT, beqF, ibeq, ibne, List.take_zero, List.take_succ_cons, List.drop_zero, List.drop_succ_cons, List.drop_nil, List.take_nil, List.cons_append, Bool.not_true, Bool.not_false]))); rfl))
    (repeat (first | refine VC.seq ?_ | refine VC.block ?_ | refine VC.kill ?_ | refine VC.skip ?_ | refine VC.exit ?_ | refine VC.regA ?_ | refine VC.condT ?_ | refine VC.condF ?_))
    refine VC.ret (Fin.A ?_); simp [isS, h1, h2, h3]; rfl
  | true =>
  by_cases h4 : a = -1
  · (apply VO.uptoE; · ((repeat (rw [runU_cons]; (simp (config := {decide := false, maxSteps := 1000000}) (disch := omega) only [vev_call, putC_c0, putC_n0, putC_cs, ble0, List.getElem?_cons_zero, List.getElem?_cons_succ, isCall, wantV, vev, evV, ofVal, ofAtom, atomB, cond_true, cond_false, PT.get, PT.set, PT.filt, PT.map, Option.getD_some, Option.getD_none, ret1V, ret1X, v_ld, v_ias, v_iad, v_fad, v_slsl, v_slarr, v_st, v_app, v_cpy, v_len, v_look, v_mset, elsV, partV, newV, free, atV, atI, atL, toVal, cellsV, okV, VSt.put, VSt.kill, VSt.alloc, VSt.frz, VSt.adopt, noref, norefB, deadB, deadV, nos, nm, nmL, nmB, nmE, Pa.eqb, Bool.not_false, Bool.not_true, Bool.and_true, Bool.true_and, Bool.false_and, Bool.and_false, bin, intOps, intBin, cvt, un, goInt, bndsV, bndV, Option.map_some, Option.map_none, List.map_cons, List.map_nil, Int.toNat_natCast, Nat.mul_one, Nat.zero_add, beq_true, beq_false, beq_self_eq_true, List.length_map, List.length_cons, List.length_nil, List.length_append, fillV, pEvV, repsV, List.append_nil, List.nil_append, if_pos, if_neg, reduceIte, List.getElem?_map, List.getElem?_drop, Nat.add_zero, List.getElem?_eq_getElem, Go.IntWalk.i64_in, wrap_u64, tmod_pos, eq_self, true_and, and_true, and_self, List.all_cons, List.all_nil, nmL_vi, flV_len, flP_len, flV_nm, flV_ok, flV_pv, flP_map, drop_flP, drop_flV, putC_flV, eqV2, eqV3, bneT, bneF, decide_true, decide_false, frzL_vi, frzL_flV, nmE_ag, nmE_at, frzE_ag, frzE_at, ofAg_len, ofAt_len, atL_vi, nmL_map_p, frzL_map_p, okL_p, toPVs_p, repsZ, nmL_reps, putC_vi, get_flV0, get_flV1, Int.toNat_zero, Int.toNat_one, Int.reduceToNat, eqV_slice, eqV_ptr, eqV_func, nilS, nilP, nilF, nmL_append, okL_vi, toPVs_vi, toPVs, toPV, frzV, frzL, frzB, resVV, vi, vb, nilV, sl1, bl1, pi, foldV, max2, min2, max_eq, min_eq, Int.tdiv_eq_ediv_of_nonneg, Int.cast_ofNat_Int, Option.isSome_none, Option.isSome_some, Option.isNone_none, Option.isNone_some, and_false, false_and, sl2, sl1P, slP, min_cast, take_map_pi, map_pi, Nat.sub_zero, Nat.zero_mul, List.length_take, decide_eq_true, decide_eq_false, Bool.true_eq_false, Bool.false_eq_true, beqT, beqF, ibeq, ibne, List.take_zero, List.take_succ_cons, List.drop_zero, List.drop_succ_cons, List.drop_nil, List.take_nil, List.cons_append, Bool.not_true, Bool.not_false]))); rfl))
    (repeat (first | refine VC.seq ?_ | refine VC.block ?_ | refine VC.kill ?_ | refine VC.skip ?_ | refine VC.exit ?_ | refine VC.regA ?_ | refine VC.condT ?_ | refine VC.condF ?_))
    refine VC.ret (Fin.A ?_); simp [isS, h4]; rfl
  (apply VO.uptoE; · ((repeat (rw [runU_cons]; (simp (config := {decide := false, maxSteps := 1000000}) (disch := omega) only [vev_call, putC_c0, putC_n0, putC_cs, ble0, List.getElem?_cons_zero, List.getElem?_cons_succ, isCall, wantV, vev, evV, ofVal, ofAtom, atomB, cond_true, cond_false, PT.get, PT.set, PT.filt, PT.map, Option.getD_some, Option.getD_none, ret1V, ret1X, v_ld, v_ias, v_iad, v_fad, v_slsl, v_slarr, v_st, v_app, v_cpy, v_len, v_look, v_mset, elsV, partV, newV, free, atV, atI, atL, toVal, cellsV, okV, VSt.put, VSt.kill, VSt.alloc, VSt.frz, VSt.adopt, noref, norefB, deadB, deadV, nos, nm, nmL, nmB, nmE, Pa.eqb, Bool.not_false, Bool.not_true, Bool.and_true, Bool.true_and, Bool.false_and, Bool.and_false, bin, intOps, intBin, cvt, un, goInt, bndsV, bndV, Option.map_some, Option.map_none, List.map_cons, List.map_nil, Int.toNat_natCast, Nat.mul_one, Nat.zero_add, beq_true, beq_false, beq_self_eq_true, List.length_map, List.length_cons, List.length_nil, List.length_append, fillV, pEvV, repsV, List.append_nil, List.nil_append, if_pos, if_neg, reduceIte, List.getElem?_map, List.getElem?_drop, Nat.add_zero, List.getElem?_eq_getElem, Go.IntWalk.i64_in, wrap_u64, tmod_pos, eq_self, true_and, and_true, and_self, List.all_cons, List.all_nil, nmL_vi, flV_len, flP_len, flV_nm, flV_ok, flV_pv, flP_map, drop_flP, drop_flV, putC_flV, eqV2, eqV3, bneT, bneF, decide_true, decide_false, frzL_vi, frzL_flV, nmE_ag, nmE_at, frzE_ag, frzE_at, ofAg_len, ofAt_len, atL_vi, nmL_map_p, frzL_map_p, okL_p, toPVs_p, repsZ, nmL_reps, putC_vi, get_flV0, get_flV1, Int.toNat_zero, Int.toNat_one, Int.reduceToNat, eqV_slice, eqV_ptr, eqV_func, nilS, nilP, nilF, nmL_append, okL_vi, toPVs_vi, toPVs, toPV, frzV, frzL, frzB, resVV, vi, vb, nilV, sl1, bl1, pi, foldV, max2, min2, max_eq, min_eq, Int.tdiv_eq_ediv_of_nonneg, Int.cast_ofNat_Int, Option.isSome_none, Option.isSome_some, Option.isNone_none, Option.isNone_some, and_false, false_and, sl2, sl1P, slP, min_cast, take_map_pi, map_pi, Nat.sub_zero, Nat.zero_mul, List.length_take, decide_eq_true, decide_eq_false, Bool.true_eq_false, Bool.false_eq_true, beqT, beqF, ibeq, ibne, List.take_zero, List.take_succ_cons, List.drop_zero, List.drop_succ_cons, List.drop_nil, List.take_nil, List.cons_append, Bool.not_true, Bool.not_false]))); rfl))
  (repeat (first | refine VC.seq ?_ | refine VC.block ?_ | refine VC.kill ?_ | refine VC.skip ?_ | refine VC.exit ?_ | refine VC.regA ?_ | refine VC.condT ?_ | refine VC.condF ?_))
  refine VC.ret (Fin.A ?_); simp [isS, h1, h2, h3, h4]; rfl
end
end Go.Ab.Jug

namespace Go.Ab.Jug
open Go.Ab.V
set_option maxRecDepth 100000
def atQ (l : List Int) (i : Int) : Int := l.getD i.toNat 0
def doS (q f : List Int) (a b : Int) : List Int :=
  if a = -1 then f.set b.toNat (atQ q b) else if b = -1 then f.set a.toNat 0
  else (f.set a.toNat (atQ f a - min (atQ f a) (atQ q b - atQ f b))).set b.toNat (atQ f b + min (atQ f a) (atQ q b - atQ f b))
section
variable {n : Nat} {q0 q1 q2 q3 f0 f1 f2 f3 : Int} {c : Bool} {a b : Int}
set_option maxHeartbeats 4000000 in
theorem do_ok (ha : -1 ≤ a ∧ a < 4) (hb : -1 ≤ b ∧ b < 4) (hab : a ≠ b) (h0 : 0 ≤ f0 ∧ f0 ≤ q0 ∧ q0 ≤ 12) (h1 : 0 ≤ f1 ∧ f1 ≤ q1 ∧ q1 ≤ 12) (h2 : 0 ≤ f2 ∧ f2 ≤ q2 ∧ q2 ≤ 12) (h3 : 0 ≤ f3 ∧ f3 ≤ q3 ∧ q3 ≤ 12) :
    VCall cfg 62 [ag2 a b, .p (.fp 0 (jugQ n q0 q1 q2 q3 c)), ag4 f0 f1 f2 f3] [] [] (.agg ((doS [q0, q1, q2, q3] [f0, f1, f2, f3] a b).map vi)) [] := by
  (refine VCall.mk (fn := a62) rfl rfl rfl ?_; simp only [a62, inV, mkB, nmsL, PT.set])
  simp only [ag2, ag4, jugQ]
  by_cases hA : a = -1
  · subst hA
    obtain rfl | rfl | rfl | rfl : b = 0 ∨ b = 1 ∨ b = 2 ∨ b = 3 := by omega
    all_goals
      (repeat (first | refine VC.seq ?_ | refine VC.block ?_ | refine VC.kill ?_ | refine VC.skip ?_ | refine VC.exit ?_ | refine VC.regA ?_ | refine VC.condT ?_ | refine VC.condF ?_))
      exact VC.ret (Fin.A (hys := rfl) rfl)
  by_cases hB : b = -1
  · subst hB
    obtain rfl | rfl | rfl | rfl : a = 0 ∨ a = 1 ∨ a = 2 ∨ a = 3 := by omega
    all_goals
      (repeat (first | refine VC.seq ?_ | refine VC.block ?_ | refine VC.kill ?_ | refine VC.skip ?_ | refine VC.exit ?_ | refine VC.regA ?_ | refine VC.condT ?_ | refine VC.condF ?_))
      exact VC.ret (Fin.A (hys := rfl) rfl)
  obtain rfl | rfl | rfl | rfl : a = 0 ∨ a = 1 ∨ a = 2 ∨ a = 3 := by omega
  · obtain rfl | rfl | rfl : b = 1 ∨ b = 2 ∨ b = 3 := by omega
    all_goals
      (repeat (first | refine VC.seq ?_ | refine VC.block ?_ | refine VC.kill ?_ | refine VC.skip ?_ | refine VC.exit ?_ | refine VC.regA ?_ | refine VC.condT ?_ | refine VC.condF ?_))
      exact VC.ret (Fin.A (hys := rfl) rfl)
  · obtain rfl | rfl | rfl : b = 0 ∨ b = 2 ∨ b = 3 := by omega
    all_goals
      (repeat (first | refine VC.seq ?_ | refine VC.block ?_ | refine VC.kill ?_ | refine VC.skip ?_ | refine VC.exit ?_ | refine VC.regA ?_ | refine VC.condT ?_ | refine VC.condF ?_))
      exact VC.ret (Fin.A (hys := rfl) rfl)
  · obtain rfl | rfl | rfl : b = 0 ∨ b = 1 ∨ b = 3 := by omega
    all_goals
      (repeat (first | refine VC.seq ?_ | refine VC.block ?_ | refine VC.kill ?_ | refine VC.skip ?_ | refine VC.exit ?_ | refine VC.regA ?_ | refine VC.condT ?_ | refine VC.condF ?_))
      exact VC.ret (Fin.A (hys := rfl) rfl)
  · obtain rfl | rfl | rfl : b = 0 ∨ b = 1 ∨ b = 2 := by omega
    all_goals
      (repeat (first | refine VC.seq ?_ | refine VC.block ?_ | refine VC.kill ?_ | refine VC.skip ?_ | refine VC.exit ?_ | refine VC.regA ?_ | refine VC.condT ?_ | refine VC.condF ?_))
      exact VC.ret (Fin.A (hys := rfl) rfl)
end
end Go.Ab.Jug

namespace Go.Ab.Jug
open Go.Ab.V
set_option maxRecDepth 100000
theorem put_pad0 (x : List Int) (h : x.length ≤ 4) : putC [vi 0, vi 0, vi 0, vi 0] 0 (x.map vi) = (pad4 x).map vi := by
  rcases x with _ | ⟨a, _ | ⟨b, _ | ⟨d, _ | ⟨e, _ | ⟨f, r⟩⟩⟩⟩⟩ <;> first | rfl | simp at h
theorem of_ok (f : List Int) (h4 : f.length ≤ 4) : VCall cfg 48 [sl1 f] [] [] (.agg ((pad4 f).map vi)) [] := by
  have h1 : List.take f.length (f.map vi) = f.map vi := List.take_of_length_le (by simp)
  have h2 : (f.map vi).all okV = true := by simp [vi, okV, noref, nos]
  have h3 : 0 + f.length ≤ 1 + 1 + 1 + 1 := by omega
  have h5 : f.length ≤ 1 + 1 + 1 + 1 := by omega
  have h6 := put_pad0 f h4
  have h7 : f.length ≤ 4 := h4
  have hp : (pad4 f).length = 4 := by simp [pad4]; omega
  simp only [vi] at h6
  (refine VCall.mk (fn := a48) rfl rfl rfl ?_; simp only [a48, inV, mkB, nmsL, PT.set])
  (repeat (first | refine VC.seq ?_ | refine VC.block ?_ | refine VC.kill ?_ | refine VC.skip ?_ | refine VC.exit ?_ | refine VC.regA ?_ | refine VC.condT ?_ | refine VC.condF ?_))
  apply VC.regU
  · (simp (config := {decide := false, maxSteps := 1000000}) (disch := omega) only [vev_call, putC_c0, putC_n0, putC_cs, ble0, List.getElem?_cons_zero, List.getElem?_cons_succ, runU, isCall, wantV, vev, evV, ofVal, ofAtom, atomB, cond_true, cond_false, PT.get, PT.set, PT.filt, PT.map, Option.getD_some, Option.getD_none, ret1V, ret1X, v_ld, v_ias, v_iad, v_fad, v_slsl, v_slarr, v_st, v_app, v_cpy, v_len, v_look, v_mset, elsV, partV, newV, free, atV, atI, atL, toVal, cellsV, okV, VSt.put, VSt.kill, VSt.alloc, VSt.frz, VSt.adopt, noref, norefB, deadB, deadV, nos, nm, nmL, nmB, nmE, Pa.eqb, Bool.not_false, Bool.not_true, Bool.and_true, Bool.true_and, Bool.false_and, Bool.and_false, bin, intOps, intBin, cvt, un, goInt, bndsV, bndV, Option.map_some, Option.map_none, List.map_cons, List.map_nil, Int.toNat_natCast, Nat.mul_one, Nat.zero_add, beq_true, beq_false, beq_self_eq_true, List.length_map, List.length_cons, List.length_nil, List.length_append, fillV, pEvV, repsV, List.append_nil, List.nil_append, if_pos, if_neg, reduceIte, List.getElem?_map, List.getElem?_drop, Nat.add_zero, List.getElem?_eq_getElem, Go.IntWalk.i64_in, wrap_u64, tmod_pos, eq_self, true_and, and_true, and_self, List.all_cons, List.all_nil, nmL_vi, flV_len, flP_len, flV_nm, flV_ok, flV_pv, flP_map, drop_flP, drop_flV, putC_flV, eqV2, eqV3, bneT, bneF, decide_true, decide_false, frzL_vi, frzL_flV, nmE_ag, nmE_at, frzE_ag, frzE_at, ofAg_len, ofAt_len, atL_vi, nmL_map_p, frzL_map_p, okL_p, toPVs_p, repsZ, nmL_reps, putC_vi, get_flV0, get_flV1, Int.toNat_zero, Int.toNat_one, Int.reduceToNat, eqV_slice, eqV_ptr, eqV_func, nilS, nilP, nilF, nmL_append, okL_vi, toPVs_vi, toPVs, toPV, frzV, frzL, frzB, resVV, vi, vb, nilV, sl1, bl1, pi, foldV, max2, min2, max_eq, min_eq, Int.tdiv_eq_ediv_of_nonneg, Int.cast_ofNat_Int, Option.isSome_none, Option.isSome_some, Option.isNone_none, Option.isNone_some, and_false, false_and, sl2, sl1P, slP, min_cast, take_map_pi, map_pi, Nat.sub_zero, Nat.zero_mul, List.length_take, decide_eq_true, decide_eq_false, Bool.true_eq_false, Bool.false_eq_true, beqT, beqF, ibeq, ibne, List.take_zero, List.take_succ_cons, List.drop_zero, List.drop_succ_cons, List.drop_nil, List.take_nil, List.cons_append, Bool.not_true, Bool.not_false, true_or, or_true, if_true, h1, h2, h3, h5, h7, ne_eq, true_and, and_true, Nat.succ_ne_self, not_false_eq_true, reduceCtorEq, Nat.one_ne_zero, Nat.min_eq_left h4, h6])
    rfl
  generalize hP : pad4 f = P at *
  obtain ⟨a, b, c, d, rfl⟩ : ∃ a b c d, P = [a, b, c, d] := by
    rcases P with _ | ⟨a, _ | ⟨b, _ | ⟨d, _ | ⟨e, _ | ⟨f, r⟩⟩⟩⟩⟩ <;> first | exact ⟨_, _, _, _, rfl⟩ | simp at hp
  simp only [List.map_cons, List.map_nil]
  (repeat (first | refine VC.seq ?_ | refine VC.block ?_ | refine VC.kill ?_ | refine VC.skip ?_ | refine VC.exit ?_ | refine VC.regA ?_ | refine VC.condT ?_ | refine VC.condF ?_))
  exact VC.ret (Fin.A (hys := rfl) rfl)
end Go.Ab.Jug

namespace Go.Ab.Jug
open Go.Ab.V
set_option maxRecDepth 100000
def itemS (n : Nat) (q f : List Int) (c : Bool) (a b : Int) : List (List VV) := if isS n c a b = true ∧ doS q f a b ≠ f then [[ag2 a b, .agg ((doS q f a b).map vi)]] else []
def rowS (n : Nat) (q f : List Int) (c : Bool) (a : Int) : Nat → List (List VV)
  | 0 => []
  | m + 1 => itemS n q f c a ((n : Int) - ((m + 1 : Nat) : Int)) ++ rowS n q f c a m
def allS (n : Nat) (q f : List Int) (c : Bool) : Nat → List (List VV)
  | 0 => []
  | k + 1 => rowS n q f c ((n : Int) - ((k + 1 : Nat) : Int)) (n + 1) ++ allS n q f c k
section
variable {n : Nat} {q0 q1 q2 q3 f0 f1 f2 f3 : Int} {c : Bool}
theorem eqV4 {a0 a1 a2 a3 b0 b1 b2 b3 : Int} : eqV (.cells [.int, .int, .int, .int]) (.agg [.p (.at (.int .i64 a0)), .p (.at (.int .i64 a1)), .p (.at (.int .i64 a2)), .p (.at (.int .i64 a3))]) (.agg [.p (.at (.int .i64 b0)), .p (.at (.int .i64 b1)), .p (.at (.int .i64 b2)), .p (.at (.int .i64 b3))]) = some (decide ([a0, a1, a2, a3] = [b0, b1, b2, b3])) := by
  show some ((a0 == b0) && ((a1 == b1) && ((a2 == b2) && ((a3 == b3) && true)))) = _
  congr 1
  rw [Bool.eq_iff_iff]
  simp
set_option maxHeartbeats 4000000 in
theorem steps1_ok (hn : n ≤ 4) (h0 : 0 ≤ f0 ∧ f0 ≤ q0 ∧ q0 ≤ 12) (h1 : 0 ≤ f1 ∧ f1 ≤ q1 ∧ q1 ≤ 12) (h2 : 0 ≤ f2 ∧ f2 ≤ q2 ∧ q2 ≤ 12) (h3 : 0 ≤ f3 ∧ f3 ≤ q3 ∧ q3 ≤ 12) :
    VIter cfg 65 [] [.p (.fp 0 [.fp 0 (jugQ n q0 q1 q2 q3 c)]), .p (.fp 0 [pi f0, pi f1, pi f2, pi f3])] false (allS n [q0, q1, q2, q3] [f0, f1, f2, f3] c (n + 1)) := by
  refine VIter.mk (fn := a65) rfl rfl rfl fun kk => ?_
  simp only [a65, inV, PT.set, List.nil_append, List.cons_append]
  (repeat (first | refine VC.seq ?_ | refine VC.block ?_ | refine VC.kill ?_ | refine VC.skip ?_ | refine VC.exit ?_ | refine VC.regA ?_ | refine VC.condT ?_ | refine VC.condF ?_))
  refine VC.loopG (fun (k : Nat) => ⟨inV [p0, p1, p2, p4] [.yl kk, .p (.fp 0 [.fp 0 (jugQ n q0 q1 q2 q3 c)]), .p (.fp 0 [pi f0, pi f1, pi f2, pi f3]), vi ((n : Int) - (k : Int))] .lf, .lf, [], some ⟨kk, allS n [q0, q1, q2, q3] [f0, f1, f2, f3] c k, true, false⟩⟩) (fun m k => m = k ∧ k ≤ n + 1) (x := n + 1) ?_ ⟨rfl, by omega⟩ ?_
  · (apply Go.Ab.V.G.weak; constructor <;> simp (config := {decide := true}) only [PT.Le, inV, mkB, PT.set, VSt.kill, VSt.adopt, VSt.alloc, PT.filt, PT.map, List.map_cons, List.map_nil, noref, norefB, deadB, deadV, nos, nm, nmL, nmB, nmE, Pa.eqb, cond_true, cond_false, Bool.not_true, Bool.not_false, Bool.and_true, Bool.true_and, nmL_vi, flV_len, flP_len, flV_nm, flV_ok, flV_pv, flP_map, drop_flP, drop_flV, putC_flV, eqV2, eqV3, bneT, bneF, decide_true, decide_false, frzL_vi, frzL_flV, nmE_ag, nmE_at, frzE_ag, frzE_at, ofAg_len, ofAt_len, atL_vi, nmL_map_p, frzL_map_p, okL_p, toPVs_p, repsZ, nmL_reps, putC_vi, get_flV0, get_flV1, Int.toNat_zero, Int.toNat_one, Int.reduceToNat, eqV_slice, eqV_ptr, eqV_func, nilS, nilP, nilF, nmL_append, true_or, or_true, and_self, true_and, and_true, Option.some.injEq, reduceCtorEq, false_or, or_false, VV.p.injEq, PV.at.injEq, Value.int.injEq, sl1, vi, bl1, vb, nilV, pi, jugQ])
    all_goals omega
  rintro m k ⟨hm, hk⟩
  simp only [inV, PT.set, jugQ]
  (repeat (first | refine VC.seq ?_ | refine VC.block ?_ | refine VC.kill ?_ | refine VC.skip ?_ | refine VC.exit ?_ | refine VC.regA ?_ | refine VC.condT ?_ | refine VC.condF ?_))
  refine VC.condA ?_ ?_ <;> intro h <;> (simp only [decide_eq_true_eq, decide_eq_false_iff_not, bne_iff_ne, ne_eq, bne_eq_false_iff_eq, beq_iff_eq, beq_eq_false_iff_ne, Bool.not_eq_true', Bool.not_eq_false', Bool.and_eq_true, Bool.or_eq_true, Int.natCast_inj] at h)
  · obtain ⟨k, rfl⟩ : ∃ j, k = j + 1 := ⟨k - 1, by omega⟩
    (repeat (first | refine VC.seq ?_ | refine VC.block ?_ | refine VC.kill ?_ | refine VC.skip ?_ | refine VC.exit ?_ | refine VC.regA ?_ | refine VC.condT ?_ | refine VC.condF ?_))
    have hA : -1 ≤ (n : Int) - ((k + 1 : Nat) : Int) ∧ (n : Int) - ((k + 1 : Nat) : Int) < n := by omega
    have hall : allS n [q0, q1, q2, q3] [f0, f1, f2, f3] c (k + 1) = rowS n [q0, q1, q2, q3] [f0, f1, f2, f3] c ((n : Int) - ((k + 1 : Nat) : Int)) (n + 1) ++ allS n [q0, q1, q2, q3] [f0, f1, f2, f3] c k := rfl
    generalize hAa : (n : Int) - ((k + 1 : Nat) : Int) = A at *
    rw [hall]
    refine VC.loopG (fun (m : Nat) => ⟨inV [p0, p1, p2, p4, p5] [.yl kk, .p (.fp 0 [.fp 0 (jugQ n q0 q1 q2 q3 c)]), .p (.fp 0 [pi f0, pi f1, pi f2, pi f3]), vi A, vi ((n : Int) - (m : Int))] .lf, .lf, [], some ⟨kk, rowS n [q0, q1, q2, q3] [f0, f1, f2, f3] c A m ++ allS n [q0, q1, q2, q3] [f0, f1, f2, f3] c k, true, false⟩⟩) (fun m' m => m' = m ∧ m ≤ n + 1) (x := n + 1) ?_ ⟨rfl, by omega⟩ ?_
    · (apply Go.Ab.V.G.weak; constructor <;> simp (config := {decide := true}) only [PT.Le, inV, mkB, PT.set, VSt.kill, VSt.adopt, VSt.alloc, PT.filt, PT.map, List.map_cons, List.map_nil, noref, norefB, deadB, deadV, nos, nm, nmL, nmB, nmE, Pa.eqb, cond_true, cond_false, Bool.not_true, Bool.not_false, Bool.and_true, Bool.true_and, nmL_vi, flV_len, flP_len, flV_nm, flV_ok, flV_pv, flP_map, drop_flP, drop_flV, putC_flV, eqV2, eqV3, bneT, bneF, decide_true, decide_false, frzL_vi, frzL_flV, nmE_ag, nmE_at, frzE_ag, frzE_at, ofAg_len, ofAt_len, atL_vi, nmL_map_p, frzL_map_p, okL_p, toPVs_p, repsZ, nmL_reps, putC_vi, get_flV0, get_flV1, Int.toNat_zero, Int.toNat_one, Int.reduceToNat, eqV_slice, eqV_ptr, eqV_func, nilS, nilP, nilF, nmL_append, true_or, or_true, and_self, true_and, and_true, Option.some.injEq, reduceCtorEq, false_or, or_false, VV.p.injEq, PV.at.injEq, Value.int.injEq, sl1, vi, bl1, vb, nilV, pi, jugQ])
      all_goals omega
    rintro m' m ⟨hm', hmm⟩
    simp only [inV, PT.set, jugQ]
    (repeat (first | refine VC.seq ?_ | refine VC.block ?_ | refine VC.kill ?_ | refine VC.skip ?_ | refine VC.exit ?_ | refine VC.regA ?_ | refine VC.condT ?_ | refine VC.condF ?_))
    refine VC.condA ?_ ?_ <;> intro h' <;> (simp only [decide_eq_true_eq, decide_eq_false_iff_not, bne_iff_ne, ne_eq, bne_eq_false_iff_eq, beq_iff_eq, beq_eq_false_iff_ne, Bool.not_eq_true', Bool.not_eq_false', Bool.and_eq_true, Bool.or_eq_true, Int.natCast_inj] at h')
    · obtain ⟨m, rfl⟩ : ∃ j, m = j + 1 := ⟨m - 1, by omega⟩
      have hB : -1 ≤ (n : Int) - ((m + 1 : Nat) : Int) ∧ (n : Int) - ((m + 1 : Nat) : Int) < n := by omega
      have hrow : rowS n [q0, q1, q2, q3] [f0, f1, f2, f3] c A (m + 1) = itemS n [q0, q1, q2, q3] [f0, f1, f2, f3] c A ((n : Int) - ((m + 1 : Nat) : Int)) ++ rowS n [q0, q1, q2, q3] [f0, f1, f2, f3] c A m := rfl
      rw [hrow]
      generalize hBb : (n : Int) - ((m + 1 : Nat) : Int) = B at *
      have k1 := is_ok (n := n) (q0 := q0) (q1 := q1) (q2 := q2) (q3 := q3) (c := c) (a := A) (b := B) (by omega) (by omega) hn
      simp only [jugQ, ag2] at k1
      cases hs : isS n c A B with
      | false =>
        rw [hs] at k1
        have : itemS n [q0, q1, q2, q3] [f0, f1, f2, f3] c A B = [] := by simp [itemS, hs]
        rw [this]
        (repeat (first | refine VC.seq ?_ | refine VC.block ?_ | refine VC.kill ?_ | refine VC.skip ?_ | refine VC.exit ?_ | refine VC.regA ?_ | refine VC.condT ?_ | refine VC.condF ?_))
        refine VC.regCA ?_
        refine VO.moreA ?_
        refine VO.call0A (no_orc 61 (by decide)) k1 ?_
        refine VO.endA ?_
        (repeat (first | refine VC.seq ?_ | refine VC.block ?_ | refine VC.kill ?_ | refine VC.skip ?_ | refine VC.exit ?_ | refine VC.regA ?_ | refine VC.condT ?_ | refine VC.condF ?_))
        refine ⟨_, m, ?_, ⟨rfl, by omega⟩, ?_⟩
        · omega
        · (apply Go.Ab.V.G.weak; constructor <;> simp (config := {decide := true}) only [PT.Le, inV, mkB, PT.set, VSt.kill, VSt.adopt, VSt.alloc, PT.filt, PT.map, List.map_cons, List.map_nil, noref, norefB, deadB, deadV, nos, nm, nmL, nmB, nmE, Pa.eqb, cond_true, cond_false, Bool.not_true, Bool.not_false, Bool.and_true, Bool.true_and, nmL_vi, flV_len, flP_len, flV_nm, flV_ok, flV_pv, flP_map, drop_flP, drop_flV, putC_flV, eqV2, eqV3, bneT, bneF, decide_true, decide_false, frzL_vi, frzL_flV, nmE_ag, nmE_at, frzE_ag, frzE_at, ofAg_len, ofAt_len, atL_vi, nmL_map_p, frzL_map_p, okL_p, toPVs_p, repsZ, nmL_reps, putC_vi, get_flV0, get_flV1, Int.toNat_zero, Int.toNat_one, Int.reduceToNat, eqV_slice, eqV_ptr, eqV_func, nilS, nilP, nilF, nmL_append, true_or, or_true, and_self, true_and, and_true, Option.some.injEq, reduceCtorEq, false_or, or_false, VV.p.injEq, PV.at.injEq, Value.int.injEq, sl1, vi, bl1, vb, nilV, pi, jugQ])
          all_goals omega
      | true =>
        rw [hs] at k1
        have hab : A ≠ B := by intro e; simp [isS, e] at hs
        have k2 := do_ok (n := n) (c := c) (a := A) (b := B) (by omega) (by omega) hab h0 h1 h2 h3
        obtain ⟨g0, g1, g2, g3, hg⟩ : ∃ g0 g1 g2 g3, doS [q0, q1, q2, q3] [f0, f1, f2, f3] A B = [g0, g1, g2, g3] := by
          have hl : (doS [q0, q1, q2, q3] [f0, f1, f2, f3] A B).length = 4 := by unfold doS; split <;> (try split) <;> simp
          generalize doS [q0, q1, q2, q3] [f0, f1, f2, f3] A B = P at hl
          rcases P with _ | ⟨a, _ | ⟨b, _ | ⟨d, _ | ⟨e, _ | ⟨f, r⟩⟩⟩⟩⟩ <;> first | exact ⟨_, _, _, _, rfl⟩ | simp at hl
        have hit : itemS n [q0, q1, q2, q3] [f0, f1, f2, f3] c A B = if [g0, g1, g2, g3] ≠ [f0, f1, f2, f3] then [[.agg [vi A, vi B], .agg [vi g0, vi g1, vi g2, vi g3]]] else [] := by
          simp only [itemS, hs, hg, true_and]; rfl
        rw [hg] at k2
        simp only [jugQ, ag2, ag4, List.map_cons, List.map_nil] at k2
        rw [hit]
        (repeat (first | refine VC.seq ?_ | refine VC.block ?_ | refine VC.kill ?_ | refine VC.skip ?_ | refine VC.exit ?_ | refine VC.regA ?_ | refine VC.condT ?_ | refine VC.condF ?_))
        refine VC.regCA ?_
        refine VO.moreA ?_
        refine VO.call0A (no_orc 61 (by decide)) k1 ?_
        refine VO.endA ?_
        (repeat (first | refine VC.seq ?_ | refine VC.block ?_ | refine VC.kill ?_ | refine VC.skip ?_ | refine VC.exit ?_ | refine VC.regA ?_ | refine VC.condT ?_ | refine VC.condF ?_))
        refine VC.regCA ?_
        refine VO.moreA ?_
        refine VO.call0A (no_orc 62 (by decide)) k2 ?_
        refine VO.endA ?_
        (repeat (first | refine VC.seq ?_ | refine VC.block ?_ | refine VC.kill ?_ | refine VC.skip ?_ | refine VC.exit ?_ | refine VC.regA ?_ | refine VC.condT ?_ | refine VC.condF ?_))
        have bT : (true != true) = false := rfl
        have bF : (false != true) = true := rfl
        by_cases hd : [g0, g1, g2, g3] = [f0, f1, f2, f3]
        · have e4 := eqV4 (a0 := g0) (a1 := g1) (a2 := g2) (a3 := g3) (b0 := f0) (b1 := f1) (b2 := f2) (b3 := f3)
          rw [decide_eq_true hd] at e4
          rw [if_neg (fun h => h hd)]
          apply VC.regU
          · (simp (config := {decide := false, maxSteps := 1000000}) (disch := omega) only [vev_call, putC_c0, putC_n0, putC_cs, ble0, List.getElem?_cons_zero, List.getElem?_cons_succ, runU, isCall, wantV, vev, evV, ofVal, ofAtom, atomB, cond_true, cond_false, PT.get, PT.set, PT.filt, PT.map, Option.getD_some, Option.getD_none, ret1V, ret1X, v_ld, v_ias, v_iad, v_fad, v_slsl, v_slarr, v_st, v_app, v_cpy, v_len, v_look, v_mset, elsV, partV, newV, free, atV, atI, atL, toVal, cellsV, okV, VSt.put, VSt.kill, VSt.alloc, VSt.frz, VSt.adopt, noref, norefB, deadB, deadV, nos, nm, nmL, nmB, nmE, Pa.eqb, Bool.not_false, Bool.not_true, Bool.and_true, Bool.true_and, Bool.false_and, Bool.and_false, bin, intOps, intBin, cvt, un, goInt, bndsV, bndV, Option.map_some, Option.map_none, List.map_cons, List.map_nil, Int.toNat_natCast, Nat.mul_one, Nat.zero_add, beq_true, beq_false, beq_self_eq_true, List.length_map, List.length_cons, List.length_nil, List.length_append, fillV, pEvV, repsV, List.append_nil, List.nil_append, if_pos, if_neg, reduceIte, List.getElem?_map, List.getElem?_drop, Nat.add_zero, List.getElem?_eq_getElem, Go.IntWalk.i64_in, wrap_u64, tmod_pos, eq_self, true_and, and_true, and_self, List.all_cons, List.all_nil, nmL_vi, flV_len, flP_len, flV_nm, flV_ok, flV_pv, flP_map, drop_flP, drop_flV, putC_flV, eqV2, eqV3, bneT, bneF, decide_true, decide_false, frzL_vi, frzL_flV, nmE_ag, nmE_at, frzE_ag, frzE_at, ofAg_len, ofAt_len, atL_vi, nmL_map_p, frzL_map_p, okL_p, toPVs_p, repsZ, nmL_reps, putC_vi, get_flV0, get_flV1, Int.toNat_zero, Int.toNat_one, Int.reduceToNat, eqV_slice, eqV_ptr, eqV_func, nilS, nilP, nilF, nmL_append, okL_vi, toPVs_vi, toPVs, toPV, frzV, frzL, frzB, resVV, vi, vb, nilV, sl1, bl1, pi, foldV, max2, min2, max_eq, min_eq, Int.tdiv_eq_ediv_of_nonneg, Int.cast_ofNat_Int, Option.isSome_none, Option.isSome_some, Option.isNone_none, Option.isNone_some, and_false, false_and, sl2, sl1P, slP, min_cast, take_map_pi, map_pi, Nat.sub_zero, Nat.zero_mul, List.length_take, decide_eq_true, decide_eq_false, Bool.true_eq_false, Bool.false_eq_true, beqT, beqF, ibeq, ibne, List.take_zero, List.take_succ_cons, List.drop_zero, List.drop_succ_cons, List.drop_nil, List.take_nil, List.cons_append, Bool.not_true, Bool.not_false, e4, bT, bF])
            rfl
          (repeat (first | refine VC.seq ?_ | refine VC.block ?_ | refine VC.kill ?_ | refine VC.skip ?_ | refine VC.exit ?_ | refine VC.regA ?_ | refine VC.condT ?_ | refine VC.condF ?_))
          refine ⟨_, m, ?_, ⟨rfl, by omega⟩, ?_⟩
          · omega
          · (apply Go.Ab.V.G.weak; constructor <;> simp (config := {decide := true}) only [PT.Le, inV, mkB, PT.set, VSt.kill, VSt.adopt, VSt.alloc, PT.filt, PT.map, List.map_cons, List.map_nil, noref, norefB, deadB, deadV, nos, nm, nmL, nmB, nmE, Pa.eqb, cond_true, cond_false, Bool.not_true, Bool.not_false, Bool.and_true, Bool.true_and, nmL_vi, flV_len, flP_len, flV_nm, flV_ok, flV_pv, flP_map, drop_flP, drop_flV, putC_flV, eqV2, eqV3, bneT, bneF, decide_true, decide_false, frzL_vi, frzL_flV, nmE_ag, nmE_at, frzE_ag, frzE_at, ofAg_len, ofAt_len, atL_vi, nmL_map_p, frzL_map_p, okL_p, toPVs_p, repsZ, nmL_reps, putC_vi, get_flV0, get_flV1, Int.toNat_zero, Int.toNat_one, Int.reduceToNat, eqV_slice, eqV_ptr, eqV_func, nilS, nilP, nilF, nmL_append, true_or, or_true, and_self, true_and, and_true, Option.some.injEq, reduceCtorEq, false_or, or_false, VV.p.injEq, PV.at.injEq, Value.int.injEq, sl1, vi, bl1, vb, nilV, pi, jugQ])
            all_goals omega
        · have e4 := eqV4 (a0 := g0) (a1 := g1) (a2 := g2) (a3 := g3) (b0 := f0) (b1 := f1) (b2 := f2) (b3 := f3)
          rw [decide_eq_false hd] at e4
          rw [if_pos hd]
          apply VC.regC
          · (simp (config := {decide := false, maxSteps := 1000000}) (disch := omega) only [vev_call, putC_c0, putC_n0, putC_cs, ble0, List.getElem?_cons_zero, List.getElem?_cons_succ, runU, isCall, wantV, vev, evV, ofVal, ofAtom, atomB, cond_true, cond_false, PT.get, PT.set, PT.filt, PT.map, Option.getD_some, Option.getD_none, ret1V, ret1X, v_ld, v_ias, v_iad, v_fad, v_slsl, v_slarr, v_st, v_app, v_cpy, v_len, v_look, v_mset, elsV, partV, newV, free, atV, atI, atL, toVal, cellsV, okV, VSt.put, VSt.kill, VSt.alloc, VSt.frz, VSt.adopt, noref, norefB, deadB, deadV, nos, nm, nmL, nmB, nmE, Pa.eqb, Bool.not_false, Bool.not_true, Bool.and_true, Bool.true_and, Bool.false_and, Bool.and_false, bin, intOps, intBin, cvt, un, goInt, bndsV, bndV, Option.map_some, Option.map_none, List.map_cons, List.map_nil, Int.toNat_natCast, Nat.mul_one, Nat.zero_add, beq_true, beq_false, beq_self_eq_true, List.length_map, List.length_cons, List.length_nil, List.length_append, fillV, pEvV, repsV, List.append_nil, List.nil_append, if_pos, if_neg, reduceIte, List.getElem?_map, List.getElem?_drop, Nat.add_zero, List.getElem?_eq_getElem, Go.IntWalk.i64_in, wrap_u64, tmod_pos, eq_self, true_and, and_true, and_self, List.all_cons, List.all_nil, nmL_vi, flV_len, flP_len, flV_nm, flV_ok, flV_pv, flP_map, drop_flP, drop_flV, putC_flV, eqV2, eqV3, bneT, bneF, decide_true, decide_false, frzL_vi, frzL_flV, nmE_ag, nmE_at, frzE_ag, frzE_at, ofAg_len, ofAt_len, atL_vi, nmL_map_p, frzL_map_p, okL_p, toPVs_p, repsZ, nmL_reps, putC_vi, get_flV0, get_flV1, Int.toNat_zero, Int.toNat_one, Int.reduceToNat, eqV_slice, eqV_ptr, eqV_func, nilS, nilP, nilF, nmL_append, okL_vi, toPVs_vi, toPVs, toPV, frzV, frzL, frzB, resVV, vi, vb, nilV, sl1, bl1, pi, foldV, max2, min2, max_eq, min_eq, Int.tdiv_eq_ediv_of_nonneg, Int.cast_ofNat_Int, Option.isSome_none, Option.isSome_some, Option.isNone_none, Option.isNone_some, and_false, false_and, sl2, sl1P, slP, min_cast, take_map_pi, map_pi, Nat.sub_zero, Nat.zero_mul, List.length_take, decide_eq_true, decide_eq_false, Bool.true_eq_false, Bool.false_eq_true, beqT, beqF, ibeq, ibne, List.take_zero, List.take_succ_cons, List.drop_zero, List.drop_succ_cons, List.drop_nil, List.take_nil, List.cons_append, Bool.not_true, Bool.not_false, e4, bT, bF])
            rfl
          refine VO.yieldA fun b _ => ?_
          cases b with
          | false =>
            refine VO.endA ?_
            (repeat (first | refine VC.seq ?_ | refine VC.block ?_ | refine VC.kill ?_ | refine VC.skip ?_ | refine VC.exit ?_ | refine VC.regA ?_ | refine VC.condT ?_ | refine VC.condF ?_))
            exact VC.ret ⟨rfl, _, _, rfl, .inl rfl⟩
          | true =>
            refine VO.endA ?_
            (repeat (first | refine VC.seq ?_ | refine VC.block ?_ | refine VC.kill ?_ | refine VC.skip ?_ | refine VC.exit ?_ | refine VC.regA ?_ | refine VC.condT ?_ | refine VC.condF ?_))
            refine ⟨_, m, ?_, ⟨rfl, by omega⟩, ?_⟩
            · omega
            · (apply Go.Ab.V.G.weak; constructor <;> simp (config := {decide := true}) only [PT.Le, inV, mkB, PT.set, VSt.kill, VSt.adopt, VSt.alloc, PT.filt, PT.map, List.map_cons, List.map_nil, noref, norefB, deadB, deadV, nos, nm, nmL, nmB, nmE, Pa.eqb, cond_true, cond_false, Bool.not_true, Bool.not_false, Bool.and_true, Bool.true_and, nmL_vi, flV_len, flP_len, flV_nm, flV_ok, flV_pv, flP_map, drop_flP, drop_flV, putC_flV, eqV2, eqV3, bneT, bneF, decide_true, decide_false, frzL_vi, frzL_flV, nmE_ag, nmE_at, frzE_ag, frzE_at, ofAg_len, ofAt_len, atL_vi, nmL_map_p, frzL_map_p, okL_p, toPVs_p, repsZ, nmL_reps, putC_vi, get_flV0, get_flV1, Int.toNat_zero, Int.toNat_one, Int.reduceToNat, eqV_slice, eqV_ptr, eqV_func, nilS, nilP, nilF, nmL_append, true_or, or_true, and_self, true_and, and_true, Option.some.injEq, reduceCtorEq, false_or, or_false, VV.p.injEq, PV.at.injEq, Value.int.injEq, sl1, vi, bl1, vb, nilV, pi, jugQ])
              all_goals omega
    · have : m = 0 := by omega
      subst this
      simp only [rowS, List.nil_append]
      (repeat (first | refine VC.seq ?_ | refine VC.block ?_ | refine VC.kill ?_ | refine VC.skip ?_ | refine VC.exit ?_ | refine VC.regA ?_ | refine VC.condT ?_ | refine VC.condF ?_))
      refine ⟨_, k, ?_, ⟨rfl, by omega⟩, ?_⟩
      · omega
      · (apply Go.Ab.V.G.weak; constructor <;> simp (config := {decide := true}) only [PT.Le, inV, mkB, PT.set, VSt.kill, VSt.adopt, VSt.alloc, PT.filt, PT.map, List.map_cons, List.map_nil, noref, norefB, deadB, deadV, nos, nm, nmL, nmB, nmE, Pa.eqb, cond_true, cond_false, Bool.not_true, Bool.not_false, Bool.and_true, Bool.true_and, nmL_vi, flV_len, flP_len, flV_nm, flV_ok, flV_pv, flP_map, drop_flP, drop_flV, putC_flV, eqV2, eqV3, bneT, bneF, decide_true, decide_false, frzL_vi, frzL_flV, nmE_ag, nmE_at, frzE_ag, frzE_at, ofAg_len, ofAt_len, atL_vi, nmL_map_p, frzL_map_p, okL_p, toPVs_p, repsZ, nmL_reps, putC_vi, get_flV0, get_flV1, Int.toNat_zero, Int.toNat_one, Int.reduceToNat, eqV_slice, eqV_ptr, eqV_func, nilS, nilP, nilF, nmL_append, true_or, or_true, and_self, true_and, and_true, Option.some.injEq, reduceCtorEq, false_or, or_false, VV.p.injEq, PV.at.injEq, Value.int.injEq, sl1, vi, bl1, vb, nilV, pi, jugQ])
        all_goals omega
  · have : k = 0 := by omega
    subst this
    (repeat (first | refine VC.seq ?_ | refine VC.block ?_ | refine VC.kill ?_ | refine VC.skip ?_ | refine VC.exit ?_ | refine VC.regA ?_ | refine VC.condT ?_ | refine VC.condF ?_))
    exact ⟨rfl, _, _, rfl, .inr ⟨rfl, trivial⟩⟩
end
end Go.Ab.Jug

namespace Go.Ab.Jug
open Go.Ab.V
set_option maxRecDepth 100000
section
variable {n : Nat} {q0 q1 q2 q3 f0 f1 f2 f3 : Int} {c : Bool}
theorem steps_ok : VCall cfg 47 [.p (.fp 0 (jugQ n q0 q1 q2 q3 c)), ag4 f0 f1 f2 f3] [] [] (.clos 65 [] [.p (.fp 0 [.fp 0 (jugQ n q0 q1 q2 q3 c)]), .p (.fp 0 [pi f0, pi f1, pi f2, pi f3])]) [] := by
  (refine VCall.mk (fn := a47) rfl rfl rfl ?_; simp only [a47, inV, mkB, nmsL, PT.set])
  simp only [ag4, jugQ]
  (repeat (first | refine VC.seq ?_ | refine VC.block ?_ | refine VC.kill ?_ | refine VC.skip ?_ | refine VC.exit ?_ | refine VC.regA ?_ | refine VC.condT ?_ | refine VC.condF ?_))
  exact VC.ret (Fin.frzA p2 (hb := rfl) (hc := rfl) (Fin.frzA p3 (hb := rfl) (hc := rfl) (Fin.A rfl)))
end
end Go.Ab.Jug

namespace Go.Ab.Jug
open Go.Ab.V
set_option maxRecDepth 100000
end Go.Ab.Jug

namespace Go.Ab.Jug
open Go.Ab.V
set_option maxRecDepth 100000
theorem putC_map (l : List Int) (i : Nat) (v : Int) (h : i < l.length) : putC (l.map vi) i [vi v] = (l.set i v).map vi := by
  unfold putC
  rw [List.set_eq_take_append_cons_drop, if_pos h, List.map_append, List.map_cons, List.map_take, List.map_drop]
  rfl
/-- The reference's step. -/
def stepR (x f : List Int) (a b : Int) : List Int :=
  if a = -1 then f.set b.toNat (atQ x b) else if b = -1 then f.set a.toNat 0
  else (f.set a.toNat (atQ f a - min (atQ f a) (atQ x b - atQ f b))).set b.toNat (atQ f b + min (atQ f a) (atQ x b - atQ f b))
def isR (n : Nat) (a b : Int) : Bool := inR n a && inR n b && decide (a ≠ b)
end Go.Ab.Jug

namespace Go.Ab.Jug
open Go.Ab.V
set_option maxRecDepth 100000
def fillE (x l : List Int) (i : Nat) : Int := if i < l.length then l.getD i 0 % 18446744073709551616 % (x.getD i 0 + 1) else 0
def fillF (x l : List Int) : List Int := (List.range x.length).map (fillE x l)
theorem range_map_succ (f : Nat → Int) (i : Nat) : (List.range (i + 1)).map f = (List.range i).map f ++ [f i] := by rw [List.range_succ, List.map_append]; rfl
set_option maxHeartbeats 4000000 in
theorem filled_ok (x l : List Int) (hx : 1 ≤ x.length ∧ x.length ≤ 4) (hq : ∀ i ∈ x, 1 ≤ i ∧ i ≤ 12) (hl : l.length ≤ 9223372036854775807) : VCall cfg 17 [sl1 x, sl1 l] [] [] (sl1 (fillF x l)) [] := by
  (refine VCall.mk (fn := a17) rfl rfl rfl ?_; simp only [a17, inV, mkB, nmsL, PT.set])
  (repeat (first | refine VC.seq ?_ | refine VC.block ?_ | refine VC.kill ?_ | refine VC.skip ?_ | refine VC.exit ?_ | refine VC.regA ?_ | refine VC.condT ?_ | refine VC.condF ?_))
  refine VC.loopG (fun (i : Nat) => ⟨inV [p0, p1, p5, p6] [sl1 x, sl1 l, .os 1 p34 i, vi i] .lf, mkB [(p34, bl1 ((List.range i).map (fillE x l)))] .lf, [], none⟩) (fun n i => n = x.length - i ∧ i ≤ x.length) (x := 0) ?_ ⟨rfl, by omega⟩ ?_
  · refine G.adoptA (p := p5) 1 p34 ?_
    (apply Go.Ab.V.G.weak; constructor <;> simp (config := {decide := true}) only [PT.Le, inV, mkB, PT.set, VSt.kill, VSt.adopt, VSt.alloc, PT.filt, PT.map, List.map_cons, List.map_nil, noref, norefB, deadB, deadV, nos, nm, nmL, nmB, nmE, Pa.eqb, cond_true, cond_false, Bool.not_true, Bool.not_false, Bool.and_true, Bool.true_and, nmL_vi, flV_len, flP_len, flV_nm, flV_ok, flV_pv, flP_map, drop_flP, drop_flV, putC_flV, eqV2, eqV3, bneT, bneF, decide_true, decide_false, frzL_vi, frzL_flV, nmE_ag, nmE_at, frzE_ag, frzE_at, ofAg_len, ofAt_len, atL_vi, nmL_map_p, frzL_map_p, okL_p, toPVs_p, repsZ, nmL_reps, putC_vi, get_flV0, get_flV1, Int.toNat_zero, Int.toNat_one, Int.reduceToNat, eqV_slice, eqV_ptr, eqV_func, nilS, nilP, nilF, nmL_append, true_or, or_true, and_self, true_and, and_true, Option.some.injEq, reduceCtorEq, false_or, or_false, VV.p.injEq, PV.at.injEq, Value.int.injEq, sl1, vi, bl1, vb, nilV]); rfl
  rintro n i ⟨hn, hi⟩
  simp only [inV, PT.set, mkB]
  have hlen : ((List.range i).map (fillE x l)).length = i := by simp
  have hlen2 : (List.range i).length = i := by simp
  (repeat (first | refine VC.seq ?_ | refine VC.block ?_ | refine VC.kill ?_ | refine VC.skip ?_ | refine VC.exit ?_ | refine VC.regA ?_ | refine VC.condT ?_ | refine VC.condF ?_))
  refine VC.condA ?_ ?_ <;> intro h <;> (simp only [decide_eq_true_eq, decide_eq_false_iff_not, bne_iff_ne, ne_eq, bne_eq_false_iff_eq, beq_iff_eq, beq_eq_false_iff_ne, Bool.not_eq_true', Bool.not_eq_false', Bool.and_eq_true, Bool.or_eq_true, Int.natCast_inj] at h)
  · have h : i < x.length := by omega
    have hxi := hq _ (List.getElem_mem h)
    by_cases h1 : i < l.length
    · have hv : fillE x l i = l[i] % 18446744073709551616 % (x[i] + 1) := by
        rw [fillE, if_pos h1, List.getD_eq_getElem?_getD, List.getD_eq_getElem?_getD, List.getElem?_eq_getElem h1, List.getElem?_eq_getElem h]; rfl
      have hr0 := Int.emod_nonneg l[i] (b := 18446744073709551616) (by decide)
      have hr1 := Int.emod_lt_of_pos l[i] (b := 18446744073709551616) (by decide)
      have hr2 := Int.emod_nonneg (l[i] % 18446744073709551616) (b := x[i] + 1) (by omega)
      have hr3 := Int.emod_lt_of_pos (l[i] % 18446744073709551616) (b := x[i] + 1) (by omega)
      have hm : (x[i] + 1) % 18446744073709551616 = x[i] + 1 := Int.emod_eq_of_lt (by omega) (by omega)
      have hw : IntKind.i64.wrap (l[i] % 18446744073709551616 % (x[i] + 1)) = l[i] % 18446744073709551616 % (x[i] + 1) := by rw [Go.IntWalk.i64_in] <;> omega
      (repeat (first | refine VC.seq ?_ | refine VC.block ?_ | refine VC.kill ?_ | refine VC.skip ?_ | refine VC.exit ?_ | refine VC.regA ?_ | refine VC.condT ?_ | refine VC.condF ?_))
      refine ⟨_, i + 1, ?_, ⟨rfl, by omega⟩, ?_⟩
      · omega
      · (apply Go.Ab.V.G.weak; constructor <;> simp (config := {decide := true}) only [PT.Le, inV, mkB, PT.set, VSt.kill, VSt.adopt, VSt.alloc, PT.filt, PT.map, List.map_cons, List.map_nil, noref, norefB, deadB, deadV, nos, nm, nmL, nmB, nmE, Pa.eqb, cond_true, cond_false, Bool.not_true, Bool.not_false, Bool.and_true, Bool.true_and, nmL_vi, flV_len, flP_len, flV_nm, flV_ok, flV_pv, flP_map, drop_flP, drop_flV, putC_flV, eqV2, eqV3, bneT, bneF, decide_true, decide_false, frzL_vi, frzL_flV, nmE_ag, nmE_at, frzE_ag, frzE_at, ofAg_len, ofAt_len, atL_vi, nmL_map_p, frzL_map_p, okL_p, toPVs_p, repsZ, nmL_reps, putC_vi, get_flV0, get_flV1, Int.toNat_zero, Int.toNat_one, Int.reduceToNat, eqV_slice, eqV_ptr, eqV_func, nilS, nilP, nilF, nmL_append, true_or, or_true, and_self, true_and, and_true, Option.some.injEq, reduceCtorEq, false_or, or_false, VV.p.injEq, PV.at.injEq, Value.int.injEq, sl1, vi, bl1, vb, nilV, range_map_succ, hv, hm, hw, List.map_append, List.map_cons, List.map_nil]) <;> first | rfl | (trace_state; omega)
    · have hv : fillE x l i = 0 := by rw [fillE, if_neg h1]
      (repeat (first | refine VC.seq ?_ | refine VC.block ?_ | refine VC.kill ?_ | refine VC.skip ?_ | refine VC.exit ?_ | refine VC.regA ?_ | refine VC.condT ?_ | refine VC.condF ?_))
      refine ⟨_, i + 1, ?_, ⟨rfl, by omega⟩, ?_⟩
      · omega
      · (apply Go.Ab.V.G.weak; constructor <;> simp (config := {decide := true}) only [PT.Le, inV, mkB, PT.set, VSt.kill, VSt.adopt, VSt.alloc, PT.filt, PT.map, List.map_cons, List.map_nil, noref, norefB, deadB, deadV, nos, nm, nmL, nmB, nmE, Pa.eqb, cond_true, cond_false, Bool.not_true, Bool.not_false, Bool.and_true, Bool.true_and, nmL_vi, flV_len, flP_len, flV_nm, flV_ok, flV_pv, flP_map, drop_flP, drop_flV, putC_flV, eqV2, eqV3, bneT, bneF, decide_true, decide_false, frzL_vi, frzL_flV, nmE_ag, nmE_at, frzE_ag, frzE_at, ofAg_len, ofAt_len, atL_vi, nmL_map_p, frzL_map_p, okL_p, toPVs_p, repsZ, nmL_reps, putC_vi, get_flV0, get_flV1, Int.toNat_zero, Int.toNat_one, Int.reduceToNat, eqV_slice, eqV_ptr, eqV_func, nilS, nilP, nilF, nmL_append, true_or, or_true, and_self, true_and, and_true, Option.some.injEq, reduceCtorEq, false_or, or_false, VV.p.injEq, PV.at.injEq, Value.int.injEq, sl1, vi, bl1, vb, nilV, range_map_succ, hv, List.map_append, List.map_cons, List.map_nil]) <;> first | rfl | omega
  · have : i = x.length := by omega
    subst this
    (repeat (first | refine VC.seq ?_ | refine VC.block ?_ | refine VC.kill ?_ | refine VC.skip ?_ | refine VC.exit ?_ | refine VC.regA ?_ | refine VC.condT ?_ | refine VC.condF ?_))
    refine VC.ret (Fin.frzA p34 (Fin.A ?_))
    unfold fillF; rw [sl1, hlen]; rfl
end Go.Ab.Jug

namespace Go.Ab.Jug
end Go.Ab.Jug

namespace Go.Ab.Jug
open Go.Ab.V
set_option maxRecDepth 100000
end Go.Ab.Jug

namespace Go.Ab.Jug
open Go.Ab.V
set_option maxRecDepth 100000
def okR (x f : List Int) (c : Bool) (a b : Int) : Bool := !(c && (decide (a = -1) || decide (b = -1))) && isR x.length a b && !decide (f = stepR x f a b)
def itR (x f : List Int) (c : Bool) (a b : Int) : List (Int × Int) := if okR x f c a b = true then [(a, b)] else []
def rowR (x f : List Int) (c : Bool) (a : Int) : Nat → List (Int × Int)
  | 0 => []
  | m + 1 => itR x f c a ((x.length : Int) - ((m + 1 : Nat) : Int)) ++ rowR x f c a m
def allR (x f : List Int) (c : Bool) : Nat → List (Int × Int)
  | 0 => []
  | k + 1 => rowR x f c ((x.length : Int) - ((k + 1 : Nat) : Int)) (x.length + 1) ++ allR x f c k
theorem stepR_len (x f : List Int) (a b : Int) : (stepR x f a b).length = f.length := by
  unfold stepR; split
  · simp
  · split <;> simp
theorem rowR_len (x f : List Int) (c : Bool) (a : Int) : ∀ m, (rowR x f c a m).length ≤ m
  | 0 => Nat.le_refl _
  | m + 1 => by
    have := rowR_len x f c a m
    have h2 : ∀ b, (itR x f c a b).length ≤ 1 := fun b => by unfold itR; split <;> simp
    have h3 := h2 ((x.length : Int) - ((m + 1 : Nat) : Int))
    simp only [rowR, List.length_append]; omega
theorem allR_len (x f : List Int) (c : Bool) : ∀ k, (allR x f c k).length ≤ k * (x.length + 1)
  | 0 => by simp [allR]
  | k + 1 => by
    have := allR_len x f c k
    have h2 := rowR_len x f c ((x.length : Int) - ((k + 1 : Nat) : Int)) (x.length + 1)
    simp only [allR, List.length_append]; rw [Nat.succ_mul]; omega
theorem allR_len25 (x f : List Int) (c : Bool) (hx : x.length ≤ 4) : (allR x f c (x.length + 1)).length ≤ 25 := by
  have := allR_len x f c (x.length + 1)
  have h2 : (x.length + 1) * (x.length + 1) ≤ 5 * 5 := Nat.mul_le_mul (by omega) (by omega)
  omega
end Go.Ab.Jug

namespace Go.Ab.Jug
open Go.Ab.V
set_option maxRecDepth 100000
/-- The steps from a filling, with the fillings afterwards. -/
def itP (n : Nat) (q f : List Int) (c : Bool) (a b : Int) : List ((Int × Int) × List Int) := if isS n c a b = true ∧ doS q f a b ≠ f then [((a, b), doS q f a b)] else []
def rowP (n : Nat) (q f : List Int) (c : Bool) (a : Int) : Nat → List ((Int × Int) × List Int)
  | 0 => []
  | m + 1 => itP n q f c a ((n : Int) - ((m + 1 : Nat) : Int)) ++ rowP n q f c a m
def allP (n : Nat) (q f : List Int) (c : Bool) : Nat → List ((Int × Int) × List Int)
  | 0 => []
  | k + 1 => rowP n q f c ((n : Int) - ((k + 1 : Nat) : Int)) (n + 1) ++ allP n q f c k
def encI (p : (Int × Int) × List Int) : List VV := [ag2 p.1.1 p.1.2, .agg (p.2.map vi)]
theorem itS_eq (n : Nat) (q f : List Int) (c : Bool) (a b : Int) : itemS n q f c a b = (itP n q f c a b).map encI := by
  unfold itemS itP; split <;> rfl
theorem rowS_eq (n : Nat) (q f : List Int) (c : Bool) (a : Int) : ∀ m, rowS n q f c a m = (rowP n q f c a m).map encI
  | 0 => rfl
  | m + 1 => by rw [rowS, rowP, List.map_append, itS_eq, rowS_eq n q f c a m]
theorem allS_eq (n : Nat) (q f : List Int) (c : Bool) : ∀ k, allS n q f c k = (allP n q f c k).map encI
  | 0 => rfl
  | k + 1 => by rw [allS, allP, List.map_append, rowS_eq, allS_eq n q f c k]
theorem pad4_len (x : List Int) (h : x.length ≤ 4) : (pad4 x).length = 4 := by simp [pad4]; omega
theorem pad4_getD (x : List Int) (i : Nat) (h : i < x.length) : (pad4 x).getD i 0 = x.getD i 0 := by
  rw [List.getD_eq_getElem?_getD, List.getD_eq_getElem?_getD, pad4, List.getElem?_append_left h]
theorem pad4_set (x : List Int) (i : Nat) (v : Int) (h : i < x.length) : (pad4 x).set i v = pad4 (x.set i v) := by
  unfold pad4; rw [List.set_append_left _ _ h, List.length_set]
theorem pad4_inj {x y : List Int} (h : x.length = y.length) (e : pad4 x = pad4 y) : x = y := (List.append_inj e h).1
theorem doS_pad (x f : List Int) (a b : Int) (hf : f.length = x.length) (ha : -1 ≤ a ∧ a < x.length) (hb : -1 ≤ b ∧ b < x.length) (hab : a ≠ b) : doS (pad4 x) (pad4 f) a b = pad4 (stepR x f a b) := by
  unfold doS stepR atQ
  by_cases h1 : a = -1
  · rw [if_pos h1, if_pos h1, pad4_getD _ _ (by omega), pad4_set _ _ _ (by omega)]
  rw [if_neg h1, if_neg h1]
  by_cases h2 : b = -1
  · rw [if_pos h2, if_pos h2, pad4_set _ _ _ (by omega)]
  rw [if_neg h2, if_neg h2, pad4_getD _ _ (by omega), pad4_getD _ _ (by omega), pad4_getD _ _ (by omega), pad4_set _ _ _ (by omega), pad4_set _ _ _ (by rw [List.length_set]; omega)]
theorem isS_eq (n : Nat) (c : Bool) (a b : Int) : isS n c a b = (!(c && (decide (a = -1) || decide (b = -1))) && isR n a b) := by
  unfold isS isR
  cases c <;> simp [Bool.and_comm, Bool.and_assoc]
def encR (x f : List Int) (p : Int × Int) : (Int × Int) × List Int := (p, pad4 (stepR x f p.1 p.2))
theorem itP_eq (x f : List Int) (c : Bool) (a b : Int) (hf : f.length = x.length) (ha : -1 ≤ a ∧ a < x.length) (hb : -1 ≤ b ∧ b < x.length) : itP x.length (pad4 x) (pad4 f) c a b = (itR x f c a b).map (encR x f) := by
  unfold itP itR okR
  rw [isS_eq]
  cases h : (!(c && (decide (a = -1) || decide (b = -1))) && isR x.length a b) with
  | false => simp
  | true =>
    have hab : a ≠ b := by
      intro e; subst e; simp [isR] at h
    rw [doS_pad x f a b hf ha hb hab]
    by_cases hd : f = stepR x f a b
    · rw [if_neg (fun h => h.2 (by rw [← hd])), if_neg (by simp [← hd])]; rfl
    · rw [if_pos ⟨rfl, fun e => hd (pad4_inj (stepR_len ..) e).symm⟩, if_pos (by simp [hd])]; rfl
theorem rowP_eq (x f : List Int) (c : Bool) (a : Int) (hf : f.length = x.length) (ha : -1 ≤ a ∧ a < x.length) : ∀ m, m ≤ x.length + 1 → rowP x.length (pad4 x) (pad4 f) c a m = (rowR x f c a m).map (encR x f)
  | 0, _ => rfl
  | m + 1, h => by rw [rowP, rowR, List.map_append, rowP_eq x f c a hf ha m (by omega), itP_eq x f c a _ hf ha (by omega)]
theorem allP_eq (x f : List Int) (c : Bool) (hf : f.length = x.length) : ∀ k, k ≤ x.length + 1 → allP x.length (pad4 x) (pad4 f) c k = (allR x f c k).map (encR x f)
  | 0, _ => rfl
  | k + 1, h => by rw [allP, allR, List.map_append, allP_eq x f c hf k (by omega), rowP_eq x f c _ hf (by omega) _ (by omega)]
/-- The steps of jugs, as they are handed on. -/
def itemsJ (x f : List Int) (c : Bool) : List (List VV) := (allR x f c (x.length + 1)).map fun p => encI (encR x f p)
theorem four {P : List Int} (h : P.length = 4) : ∃ a b c d, P = [a, b, c, d] := by
  rcases P with _ | ⟨a, _ | ⟨b, _ | ⟨d, _ | ⟨e, _ | ⟨f, r⟩⟩⟩⟩⟩ <;> first | exact ⟨_, _, _, _, rfl⟩ | simp at h
theorem pad4_bd (x f : List Int) (hx : x.length ≤ 4) (hq : ∀ i ∈ x, 1 ≤ i ∧ i ≤ 12) (hf : fillB x f = true) (i : Nat) : 0 ≤ (pad4 f).getD i 0 ∧ (pad4 f).getD i 0 ≤ (pad4 x).getD i 0 ∧ (pad4 x).getD i 0 ≤ 12 := by
  rw [fillB_iff] at hf
  rcases Nat.lt_or_ge i x.length with h | h
  · have h' : i < f.length := by omega
    rw [pad4_getD _ _ h, pad4_getD _ _ h', List.getD_eq_getElem?_getD, List.getD_eq_getElem?_getD, List.getElem?_eq_getElem h, List.getElem?_eq_getElem h']
    have := hf.2 i h' h
    have := hq _ (List.getElem_mem h)
    simp only [Option.getD_some]; omega
  · have e : ∀ (y : List Int), y.length = x.length → (pad4 y).getD i 0 = 0 := by
      intro y hy
      rw [List.getD_eq_getElem?_getD, pad4, List.getElem?_append_right (by omega), List.getElem?_replicate]
      split <;> rfl
    rw [e x rfl, e f hf.1]; omega
/-- The iterator of the steps, by the lists themselves. -/
theorem stepsIt (x f : List Int) (c : Bool) (hx : x.length ≤ 4) (hq : ∀ i ∈ x, 1 ≤ i ∧ i ≤ 12) (hf : fillB x f = true) : VIter cfg 65 [] [.p (.fp 0 [.fp 0 (jugC x c)]), .p (.fp 0 ((pad4 f).map pi))] false (itemsJ x f c) := by
  have hl : f.length = x.length := ((fillB_iff x f).1 hf).1
  obtain ⟨q0, q1, q2, q3, hQ⟩ := four (pad4_len x hx)
  obtain ⟨f0, f1, f2, f3, hF⟩ := four (pad4_len f (by omega))
  have bd := pad4_bd x f hx hq hf
  rw [hQ, hF] at bd
  have b0 := bd 0; have b1 := bd 1; have b2 := bd 2; have b3 := bd 3
  simp at b0 b1 b2 b3
  have := steps1_ok (n := x.length) (c := c) (q0 := q0) (q1 := q1) (q2 := q2) (q3 := q3) (f0 := f0) (f1 := f1) (f2 := f2) (f3 := f3) hx (by omega) (by omega) (by omega) (by omega)
  rw [allS_eq, ← hQ, ← hF, allP_eq x f c hl _ (Nat.le_refl _), List.map_map] at this
  unfold jugC
  rw [hQ, hF]
  exact this
theorem stepsJ_ok (x f : List Int) (c : Bool) (hx : x.length ≤ 4) (hf : f.length = x.length) : VCall cfg 47 [jugP x c, .agg ((pad4 f).map vi)] [] [] (.clos 65 [] [.p (.fp 0 [.fp 0 (jugC x c)]), .p (.fp 0 ((pad4 f).map pi))]) [] := by
  obtain ⟨q0, q1, q2, q3, hQ⟩ := four (pad4_len x hx)
  obtain ⟨f0, f1, f2, f3, hF⟩ := four (pad4_len f (by omega))
  unfold jugP jugC
  rw [hQ, hF]
  exact steps_ok (n := x.length)
end Go.Ab.Jug

namespace Go.Ab.Jug
open Go.Ab.V
set_option maxRecDepth 100000
theorem isR_bd {n : Nat} {a b : Int} (h : isR n a b = true) : (-1 ≤ a ∧ a < n) ∧ (-1 ≤ b ∧ b < n) ∧ a ≠ b := by
  simp only [isR, inR, Bool.and_eq_true, decide_eq_true_eq] at h
  exact ⟨h.1.1, h.1.2, h.2⟩
theorem fillB_getD {x f : List Int} (hf : fillB x f = true) (i : Nat) : 0 ≤ f.getD i 0 ∧ f.getD i 0 ≤ x.getD i 0 := by
  rw [fillB_iff] at hf
  rcases Nat.lt_or_ge i x.length with h | h
  · have h' : i < f.length := by omega
    rw [List.getD_eq_getElem?_getD, List.getD_eq_getElem?_getD, List.getElem?_eq_getElem h, List.getElem?_eq_getElem h']
    exact hf.2 i h' h
  · rw [List.getD_eq_getElem?_getD, List.getD_eq_getElem?_getD, List.getElem?_eq_none h, List.getElem?_eq_none (by omega)]
    simp
theorem fillB_set {x f : List Int} (hf : fillB x f = true) (i : Nat) (v : Int) (h0 : 0 ≤ v) (h1 : v ≤ x.getD i 0) : fillB x (f.set i v) = true := by
  rw [fillB_iff] at hf ⊢
  refine ⟨by rw [List.length_set]; exact hf.1, fun k h h' => ?_⟩
  rw [List.length_set] at h
  rw [List.getElem_set]
  split
  · rename_i e
    subst e
    rw [List.getD_eq_getElem?_getD, List.getElem?_eq_getElem h'] at h1
    exact ⟨h0, h1⟩
  · exact hf.2 k h h'
theorem fill_step (x f : List Int) (a b : Int) (hf : fillB x f = true) (hab : a ≠ b) (ha : -1 ≤ a) (hb : -1 ≤ b) : fillB x (stepR x f a b) = true := by
  have g := fillB_getD hf
  have e : ∀ i, 0 ≤ x.getD i 0 := fun i => by have := g i; omega
  unfold stepR atQ
  split
  · exact fillB_set hf _ _ (e _) (Int.le_refl _)
  split
  · exact fillB_set hf _ _ (Int.le_refl _) (e _)
  · have g1 := g a.toNat
    have g2 := g b.toNat
    refine fillB_set (fillB_set hf _ _ ?_ ?_) _ _ ?_ ?_ <;> omega
end Go.Ab.Jug

namespace Go.Ab.Jug
open Go.Ab.V
set_option maxRecDepth 100000
/-- What is known of a filling that is reached. -/
structure En where
  g : List Int
  par : List Int
  st : Int × Int
  d : Nat
def succs (x : List Int) (c : Bool) (f : List Int) : List ((Int × Int) × List Int) := (allR x f c (x.length + 1)).map fun p => (p, stepR x f p.1 p.2)
def hasE (L : List En) (g : List Int) : Bool := L.any fun e => decide (e.g = g)
def addOne (f : List Int) (d : Nat) (L : List En) (s : (Int × Int) × List Int) : List En := if hasE L s.2 = true then L else L ++ [⟨s.2, f, s.1, d + 1⟩]
def addAll (f : List Int) (d : Nat) (L : List En) (ss : List ((Int × Int) × List Int)) : List En := ss.foldl (addOne f d) L
def root (x f : List Int) : En := ⟨f, List.replicate x.length 0, (0, 0), 0⟩
theorem hasE_iff {L : List En} {g : List Int} : hasE L g = true ↔ ∃ e ∈ L, e.g = g := by simp [hasE]
theorem addOne_pre (f : List Int) (d : Nat) (L : List En) (s : (Int × Int) × List Int) : L <+: addOne f d L s := by
  unfold addOne; split
  · exact List.prefix_refl _
  · exact List.prefix_append _ _
theorem addAll_cons (f : List Int) (d : Nat) (L : List En) (s : (Int × Int) × List Int) (ss : List ((Int × Int) × List Int)) : addAll f d L (s :: ss) = addAll f d (addOne f d L s) ss := rfl
/-- All that a list of entries is said to be. -/
structure Good (x : List Int) (c : Bool) (f0 : List Int) (L : List En) : Prop where
  nodup : (L.map En.g).Nodup
  fill : ∀ e ∈ L, fillB x e.g = true ∧ fillB x e.par = true ∨ e = root x f0
  root : L[0]? = some (root x f0)
  par : ∀ (k : Nat) (e : En), L[k]? = some e → 0 < k → ∃ j e', j < k ∧ L[j]? = some e' ∧ e'.g = e.par ∧ e.d = e'.d + 1 ∧ (e.st, e.g) ∈ succs x c e'.g
theorem succ_mem {x f : List Int} {c : Bool} {s : (Int × Int) × List Int} (h : s ∈ succs x c f) : isR x.length s.1.1 s.1.2 = true ∧ s.2 = stepR x f s.1.1 s.1.2 ∧ s.2 ≠ f ∧ (c = true → s.1.1 ≠ -1 ∧ s.1.2 ≠ -1) := by
  obtain ⟨p, hp, rfl⟩ := List.mem_map.1 h
  have hrow : ∀ a m, p ∈ rowR x f c a m → okR x f c p.1 p.2 = true := by
    intro a m
    induction m with
    | zero => intro h; simp [rowR] at h
    | succ m ih =>
      intro h
      simp only [rowR, List.mem_append] at h
      rcases h with h | h
      · unfold itR at h
        split at h
        · rename_i hk; rw [List.mem_singleton.1 h]; exact hk
        · simp at h
      · exact ih h
  have hall : ∀ k, p ∈ allR x f c k → okR x f c p.1 p.2 = true := by
    intro k
    induction k with
    | zero => intro h; simp [allR] at h
    | succ k ih =>
      intro h
      simp only [allR, List.mem_append] at h
      rcases h with h | h
      · exact hrow _ _ h
      · exact ih h
  have := hall _ hp
  simp only [okR, Bool.and_eq_true, Bool.not_eq_true', decide_eq_false_iff_not] at this
  refine ⟨this.1.2, rfl, fun e => this.2 e.symm, fun hc => ?_⟩
  have h1 := this.1.1
  rw [hc] at h1
  simp at h1
  exact h1
theorem succ_fill {x f : List Int} {c : Bool} {s : (Int × Int) × List Int} (h : s ∈ succs x c f) (hf : fillB x f = true) : fillB x s.2 = true := by
  obtain ⟨h1, h2, _⟩ := succ_mem h
  have := isR_bd h1
  rw [h2]; exact fill_step x f _ _ hf this.2.2 this.1.1 this.2.1.1
theorem Good.gfill {x f0 : List Int} {c : Bool} {L : List En} (G : Good x c f0 L) (h0 : fillB x f0 = true) {e : En} (he : e ∈ L) : fillB x e.g = true := by
  rcases G.fill e he with h | h
  · exact h.1
  · rw [h]; exact h0
theorem Good.one {x f0 : List Int} {c : Bool} {L : List En} (G : Good x c f0 L) (h0 : fillB x f0 = true) {j : Nat} {e' : En} (hj : L[j]? = some e') {s : (Int × Int) × List Int} (hs : s ∈ succs x c e'.g) : Good x c f0 (addOne e'.g e'.d L s) := by
  unfold addOne
  cases hh : hasE L s.2 with
  | true => rw [if_pos rfl]; exact G
  | false =>
    rw [if_neg (by simp)]
    have hjl := (List.getElem?_eq_some_iff.1 hj).1
    have hg' := G.gfill h0 (List.mem_of_getElem? hj)
    refine ⟨?_, fun e he => ?_, ?_, fun k e hk h => ?_⟩
    · rw [List.map_append, List.nodup_append]
      refine ⟨G.nodup, by simp, fun a ha b hb => ?_⟩
      obtain ⟨e, he, rfl⟩ := List.mem_map.1 ha
      simp at hb
      subst hb
      intro e1
      have : hasE L s.2 = true := hasE_iff.2 ⟨e, he, e1⟩
      rw [hh] at this; cases this
    · rcases List.mem_append.1 he with he | he
      · exact G.fill e he
      · rw [List.mem_singleton.1 he]; exact .inl ⟨succ_fill hs hg', hg'⟩
    · rw [List.getElem?_append_left (by omega)]; exact G.root
    · by_cases hkl : k < L.length
      · rw [List.getElem?_append_left hkl] at hk
        obtain ⟨j', e'', h1, h2, h3⟩ := G.par k e hk h
        exact ⟨j', e'', h1, by rw [List.getElem?_append_left (by omega)]; exact h2, h3⟩
      · rw [List.getElem?_append_right (by omega)] at hk
        have hkk : k - L.length = 0 := by
          rcases Nat.eq_zero_or_pos (k - L.length) with h | h
          · exact h
          · rw [List.getElem?_eq_none (by simp; omega)] at hk; cases hk
        rw [hkk] at hk
        simp at hk
        subst hk
        exact ⟨j, e', by omega, by rw [List.getElem?_append_left hjl]; exact hj, rfl, rfl, hs⟩
theorem Good.all {x f0 : List Int} {c : Bool} {e' : En} (h0 : fillB x f0 = true) {j : Nat} : ∀ (ss : List ((Int × Int) × List Int)) {L : List En}, Good x c f0 L → L[j]? = some e' → (∀ s ∈ ss, s ∈ succs x c e'.g) → Good x c f0 (addAll e'.g e'.d L ss)
  | [], L, G, _, _ => G
  | s :: ss, L, G, hj, hs => by
    rw [addAll_cons]
    refine Good.all (j := j) h0 ss (G.one h0 hj (hs s (by simp))) ?_ fun t ht => hs t (List.mem_cons_of_mem _ ht)
    have hp := addOne_pre e'.g e'.d L s
    obtain ⟨t, ht⟩ := hp
    rw [← ht, List.getElem?_append_left (List.getElem?_eq_some_iff.1 hj).1]; exact hj
/-! ### Codes -/
end Go.Ab.Jug

namespace Go.Ab.Jug
open Go.Ab.V
set_option maxRecDepth 100000
end Go.Ab.Jug

namespace Go.Ab.Jug
open Go.Ab.V
set_option maxRecDepth 100000
def k4 : List CK := [.int, .int, .int, .int]
end Go.Ab.Jug

namespace Go.Ab.Jug
open Go.Ab.V
set_option maxRecDepth 100000
/-! ### The way back -/
end Go.Ab.Jug

namespace Go.Ab.Jug
open Go.Ab.V
set_option maxRecDepth 100000
end Go.Ab.Jug

namespace Go.Ab.Jug
open Go.Ab.V
set_option maxRecDepth 100000
end Go.Ab.Jug

namespace Go.Ab.Jug
open Go.Ab.V
set_option maxRecDepth 100000
end Go.Ab.Jug

namespace Go.Ab.Jug
set_option maxRecDepth 1000000
theorem awake_runs : (match run true cfg0 400 (.call 20 [] ⟨fun _ => none, .lf, 0, 0⟩) with
  | some (_, .nd (.bool true) _ _, _) => true
  | _ => false) = true := by decide +kernel
theorem awake_closed : ClosedAns cfg0 20 (.bool true) := by
  have h := awake_runs
  split at h
  · rename_i e l r h' he; exact ⟨400, e, l, r, h', he⟩
  · cases h
end Go.Ab.Jug

namespace Go.Ab.Jug
open Go.Ab.V
set_option maxRecDepth 100000
theorem tameJ_ok (l : List Int) (m : Nat) (hm : 1 ≤ m ∧ m ≤ 4) : okJ (tameJ l m) := by
  unfold tameJ
  split
  · rw [okJ_iff]; simp
  · rw [okJ_iff]
    refine ⟨fun x hx => ?_, ?_, ?_⟩
    · obtain ⟨y, _, rfl⟩ := List.mem_map.1 hx
      exact red12_bd y
    · rw [List.length_map]; omega
    · rw [List.length_map, List.length_take]; omega
theorem fillF_ok (x l : List Int) (hq : ∀ i ∈ x, 1 ≤ i ∧ i ≤ 12) : fillB x (fillF x l) = true := by
  rw [fillB_iff]
  refine ⟨by simp [fillF], fun i h h' => ?_⟩
  simp only [fillF, List.getElem_map, List.getElem_range, fillE]
  have hx := hq _ (List.getElem_mem h')
  rw [show x.getD i 0 = x[i] from by rw [List.getD_eq_getElem?_getD, List.getElem?_eq_getElem h', Option.getD_some]]
  split
  · exact ⟨Int.emod_nonneg _ (by omega), by have := Int.emod_lt_of_pos (l.getD i 0 % 18446744073709551616) (b := x[i] + 1) (by omega); omega⟩
  · omega
end Go.Ab.Jug

/- Regions in which a read may come before or behind a call. -/
namespace Go.Ab.V
section
variable {C : Cfg}
end
end Go.Ab.V

namespace Go.Ab.Jug
open Go.Ab.V
set_option maxRecDepth 100000
end Go.Ab.Jug

namespace Go.Ab.Jug
open Go.Ab.V
set_option maxRecDepth 100000
end Go.Ab.Jug

namespace Go.Ab.V
/-- A call that hands back new blocks. -/
theorem VO.callN {C : Cfg} {S : VSt} {Q : VSt → Prop} {d : Option Pa} {gd : Option (Pa × Bool)} {g : Opd} {args : List Opd} {r : List AOper} {f : Nat} {first cap L : List VV} {N : List Pa} {y : VV} {B' : List (Pa × VB)} (ho : ∀ l, C.orc f l = none) (hc : VCall C f L [] N y B')
    (hl : first ++ args.map (evV S) ++ cap = L) (hw : wantV S gd = some true) (hg : evV S g = .clos f first cap) (hdisN : hasNo S.B (N ++ nmsL B') = true) (hNK : N.all (fun a => nos a S.K) = true) (hsub : subs (nmsL B') N = true)
    (hq : VO C r (VSt.put ⟨filtN N S.L, mkB B' (filtNB N S.B), S.K, S.H⟩ d y) Q) : VO C (⟨d, gd, .call g args⟩ :: r) S Q := by
  refine VO.call [] [] S.B hw hg ho (y := y) (N := N) (B' := B') ?_ trivial trivial (PT.Le.refl _) ?_ hdisN rfl hNK hsub rfl rfl hq
  · rw [borL_eq]
    have : (List.map (borV []) (first ++ args.map (evV S) ++ cap)) = first ++ args.map (evV S) ++ cap := by
      have h1 : borV [] = id := by funext x; rfl
      rw [h1, List.map_id]
    rw [this, hl]; exact hc
  · rfl
end Go.Ab.V
namespace Go.Ab.Jug
open Go.Ab.V
set_option maxRecDepth 100000
set_option maxHeartbeats 4000000 in
theorem StepsO_ok (x f : List Int) (c : Bool) (hx : okJ x) (hf : fillB x f = true) : VCall cfg 18 [sl1 x, sl1 f, vb c] [] [p36] (.tup [.os 2 p36 (allR x f c (x.length + 1)).length, vi 0]) [(p36, .cells (flV (allR x f c (x.length + 1))))] := by
  have hl : x.length ≤ 9223372036854775807 := by have := hx.2.1; omega
  have hlf : f.length = x.length := ((fillB_iff x f).1 hf).1
  have ho := opens x c [f] hl (by simp; omega) (by simp)
  have hv : openV x [f] = 0 := by unfold openV; rw [if_pos hx, if_pos (by simp [hf])]
  rw [openJ, hv, if_pos rfl] at ho
  have hof := of_ok f (by have := hx.2.1; omega)
  have hst := stepsJ_ok x f c hx.2.1 hlf
  have hit := stepsIt x f c hx.2.1 (okJ_mem hx) hf
  have h25 := allR_len25 x f c hx.2.1
  unfold jugP at hst ho
  (refine VCall.mk (fn := a18) rfl rfl rfl ?_; simp only [a18, inV, mkB, nmsL, PT.set])
  (repeat (first | refine VC.seq ?_ | refine VC.block ?_ | refine VC.kill ?_ | refine VC.skip ?_ | refine VC.exit ?_ | refine VC.regA ?_ | refine VC.condT ?_ | refine VC.condF ?_))
  refine VC.regCA ?_
  refine VO.moreA ?_
  refine VO.frzA p16 ?_
  refine VO.call0A (no_orc 46 (by decide)) ho ?_
  refine VO.endA ?_
  (repeat (first | refine VC.seq ?_ | refine VC.block ?_ | refine VC.kill ?_ | refine VC.skip ?_ | refine VC.exit ?_ | refine VC.regA ?_ | refine VC.condT ?_ | refine VC.condF ?_))
  refine VC.regCA ?_
  refine VO.moreA ?_
  refine VO.call0A (no_orc 48 (by decide)) hof ?_
  refine VO.moreA ?_
  refine VO.call0A (no_orc 47 (by decide)) hst ?_
  refine VO.endA ?_
  (repeat (first | refine VC.seq ?_ | refine VC.block ?_ | refine VC.kill ?_ | refine VC.skip ?_ | refine VC.exit ?_ | refine VC.regA ?_ | refine VC.condT ?_ | refine VC.condF ?_))
  refine VC.ghost (G.adoptBA (p := p10) 0 2 p36 G.refl) ?_
  (simp only [VSt.kill, VSt.osob, VSt.adoptB, VSt.adopt, VSt.alloc, PT.filt, norefB, deadB, deadV, PT.map, Option.map_some, Option.map_none, List.map_cons, List.map_nil, noref, nos, nm, nmL, nmB, nmE, Pa.eqb, PT.set, mkB, inV, cond_true, cond_false, Bool.and_true, Bool.not_false, Bool.not_true, List.set_cons_zero, List.set_cons_succ])
  refine VC.rangeFA (fun (L : List (Int × Int)) => mkB [(p10, .cells [.os 2 p36 L.length]), (p36, .cells (flV L))] .lf) (fun i L => L = (allR x f c (x.length + 1)).take i) (x0 := []) [p10] (no_orc 65 (by decide)) hit ?_ ?_ (by simp) ?_ ?_ ?_
  · simp [NmOk, VSt.kill, VSt.adoptB, VSt.alloc, PT.filt, PT.set, nm, nmL, noref, nos, Pa.eqb]
  · simp [mkB, VSt.kill, VSt.adoptB, VSt.alloc, PT.filt, PT.map, deadB, deadV, noref, norefB, nos, nm, nmL, nmB, Pa.eqb, PT.set, PT.Le, flV]
  · intro y hy
    obtain ⟨p, _, rfl⟩ := List.mem_map.1 hy
    rfl
  · intro i L hlt hL
    have hlt' : i < (allR x f c (x.length + 1)).length := by rw [itemsJ, List.length_map] at hlt; exact hlt
    generalize hAB : (allR x f c (x.length + 1))[i] = ab
    have hi : (itemsJ x f c)[i] = encI (encR x f ab) := by simp only [itemsJ, List.getElem_map]; rw [hAB]
    have hnext : L ++ [ab] = (allR x f c (x.length + 1)).take (i + 1) := by rw [hL, List.take_add_one, List.getElem?_eq_getElem hlt', hAB]; rfl
    have hLi : L.length = i := by rw [hL, List.length_take]; omega
    obtain ⟨A, B⟩ := ab
    rw [hi]
    have hl2 := flV_len L
    have hnm := flV_nm L
    have hfl := flV_snoc L A B
    have hlen : (L ++ [(A, B)]).length = L.length + 1 := by simp
    simp only [encI, encR, ag2]
    (simp only [VSt.kill, VSt.osob, VSt.adoptB, VSt.adopt, VSt.alloc, PT.filt, norefB, deadB, deadV, PT.map, Option.map_some, Option.map_none, List.map_cons, List.map_nil, noref, nos, nm, nmL, nmB, nmE, Pa.eqb, PT.set, mkB, inV, cond_true, cond_false, Bool.and_true, Bool.not_false, Bool.not_true, List.set_cons_zero, List.set_cons_succ])
    (repeat (first | refine VC.seq ?_ | refine VC.block ?_ | refine VC.kill ?_ | refine VC.skip ?_ | refine VC.exit ?_ | refine VC.regA ?_ | refine VC.condT ?_ | refine VC.condF ?_))
    refine ⟨by simp, L ++ [(A, B)], hnext, ?_⟩
    (apply Go.Ab.V.G.weak; constructor <;> simp (config := {decide := true}) only [PT.Le, inV, mkB, PT.set, VSt.kill, VSt.adopt, VSt.alloc, PT.filt, PT.map, List.map_cons, List.map_nil, noref, norefB, deadB, deadV, nos, nm, nmL, nmB, nmE, Pa.eqb, cond_true, cond_false, Bool.not_true, Bool.not_false, Bool.and_true, Bool.true_and, nmL_vi, flV_len, flP_len, flV_nm, flV_ok, flV_pv, flP_map, drop_flP, drop_flV, putC_flV, eqV2, eqV3, bneT, bneF, decide_true, decide_false, frzL_vi, frzL_flV, nmE_ag, nmE_at, frzE_ag, frzE_at, ofAg_len, ofAt_len, atL_vi, nmL_map_p, frzL_map_p, okL_p, toPVs_p, repsZ, nmL_reps, putC_vi, get_flV0, get_flV1, Int.toNat_zero, Int.toNat_one, Int.reduceToNat, eqV_slice, eqV_ptr, eqV_func, nilS, nilP, nilF, nmL_append, true_or, or_true, and_self, true_and, and_true, Option.some.injEq, reduceCtorEq, false_or, or_false, VV.p.injEq, PV.at.injEq, Value.int.injEq, sl1, vi, bl1, vb, nilV, hfl, hlen, pi])
    (all_goals first | rfl | omega | exact ⟨rfl, by omega⟩)
  · intro _ L hL
    have hL : L = allR x f c (x.length + 1) := by rw [hL, itemsJ, List.length_map, List.take_length]
    rw [← hL]
    have hpv := flV_pv L
    (simp only [VSt.kill, VSt.osob, VSt.adoptB, VSt.adopt, VSt.alloc, PT.filt, norefB, deadB, deadV, PT.map, Option.map_some, Option.map_none, List.map_cons, List.map_nil, noref, nos, nm, nmL, nmB, nmE, Pa.eqb, PT.set, mkB, inV, cond_true, cond_false, Bool.and_true, Bool.not_false, Bool.not_true, List.set_cons_zero, List.set_cons_succ])
    (repeat (first | refine VC.seq ?_ | refine VC.block ?_ | refine VC.kill ?_ | refine VC.skip ?_ | refine VC.exit ?_ | refine VC.regA ?_ | refine VC.condT ?_ | refine VC.condF ?_))
    refine VC.ret (Fin.of rfl rfl ?_ rfl rfl ?_)
    · simp [mkB, PT.set, PT.Le, VSt.kill]
    · simp [subs, nm, nmL, nmsB, nmB, flV_nm, nos, Pa.eqb, vi]
set_option maxHeartbeats 4000000 in
theorem AmountsO_ok (a : List Int) (h : okJ a) : VCall cfg 30 [sl1 a] [] [p23] (.tup [.os 1 p23 (amts a).length, vi 0]) [(p23, bl1 (amts a))] := by
  have hl : a.length ≤ 9223372036854775807 := by have := h.2.1; omega
  have hc := Check_ok a hl
  rw [if_pos h] at hc
  have hg := gcdL_pos h
  have hm := maxL_pos h
  have hg12 := gcdL_le h
  (refine VCall.mk (fn := a30) rfl rfl rfl ?_; simp only [a30, inV, mkB, nmsL, PT.set])
  (repeat (first | refine VC.seq ?_ | refine VC.block ?_ | refine VC.kill ?_ | refine VC.skip ?_ | refine VC.exit ?_ | refine VC.regA ?_ | refine VC.condT ?_ | refine VC.condF ?_))
  refine VC.regCA ?_
  refine VO.call0A (no_orc 43 (by decide)) hc ?_
  refine VO.endA ?_
  (repeat (first | refine VC.seq ?_ | refine VC.block ?_ | refine VC.kill ?_ | refine VC.skip ?_ | refine VC.exit ?_ | refine VC.regA ?_ | refine VC.condT ?_ | refine VC.condF ?_))
  let L : Nat → List Int := fun i => (List.range i).map fun (k : Nat) => (k : Int) * gcdL a
  have hL : ∀ i, (L i).length = i := fun i => by simp [L]
  refine VC.loopG (fun (i : Nat) => ⟨inV [p0, p5, p6] [sl1 a, .os 1 p23 i, vi (i * gcdL a)] .lf, mkB [(p23, bl1 (L i))] .lf, [], none⟩) (fun n i => n = (maxL a).toNat / gcdL a + 1 - i ∧ i ≤ (maxL a).toNat / gcdL a + 1) (x := 0) ?_ ⟨rfl, Nat.zero_le _⟩ ?_
  · refine G.adoptA (p := p5) 1 p23 ?_
    (apply Go.Ab.V.G.weak; constructor <;> simp (config := {decide := true}) only [PT.Le, inV, mkB, PT.set, VSt.kill, VSt.adopt, VSt.alloc, PT.filt, PT.map, List.map_cons, List.map_nil, noref, norefB, deadB, deadV, nos, nm, nmL, nmB, nmE, Pa.eqb, cond_true, cond_false, Bool.not_true, Bool.not_false, Bool.and_true, Bool.true_and, nmL_vi, flV_len, flP_len, flV_nm, flV_ok, flV_pv, flP_map, drop_flP, drop_flV, putC_flV, eqV2, eqV3, bneT, bneF, decide_true, decide_false, frzL_vi, frzL_flV, nmE_ag, nmE_at, frzE_ag, frzE_at, ofAg_len, ofAt_len, atL_vi, nmL_map_p, frzL_map_p, okL_p, toPVs_p, repsZ, nmL_reps, putC_vi, get_flV0, get_flV1, Int.toNat_zero, Int.toNat_one, Int.reduceToNat, eqV_slice, eqV_ptr, eqV_func, nilS, nilP, nilF, nmL_append, true_or, or_true, and_self, true_and, and_true, Option.some.injEq, reduceCtorEq, false_or, or_false, VV.p.injEq, PV.at.injEq, Value.int.injEq, sl1, vi, bl1, vb, nilV])
    · simp
    · rfl
  rintro n i ⟨hn, hi⟩
  have hq : (i : Int) * gcdL a ≤ maxL a ↔ i ≤ (maxL a).toNat / gcdL a := by
    rw [Nat.le_div_iff_mul_le hg]
    constructor
    · intro h; have : ((i * gcdL a : Nat) : Int) ≤ ((maxL a).toNat : Int) := by rw [Int.natCast_mul]; omega
      omega
    · intro h; have : ((i * gcdL a : Nat) : Int) ≤ ((maxL a).toNat : Int) := by omega
      rw [Int.natCast_mul] at this; omega
  have hp0 : 0 ≤ (i : Int) * gcdL a := Int.mul_nonneg (by omega) (by omega)
  have hLi := hL i
  simp only [inV, PT.set, mkB]
  (repeat (first | refine VC.seq ?_ | refine VC.block ?_ | refine VC.kill ?_ | refine VC.skip ?_ | refine VC.exit ?_ | refine VC.regA ?_ | refine VC.condT ?_ | refine VC.condF ?_))
  refine VC.regCA ?_
  refine VO.call0A (no_orc 57 (by decide)) (Max_ok a (by have := h.1; omega) hl) ?_
  refine VO.endA ?_
  (repeat (first | refine VC.seq ?_ | refine VC.block ?_ | refine VC.kill ?_ | refine VC.skip ?_ | refine VC.exit ?_ | refine VC.regA ?_ | refine VC.condT ?_ | refine VC.condF ?_))
  refine VC.condA ?_ ?_ <;> intro hc <;> (simp only [decide_eq_true_eq, decide_eq_false_iff_not, bne_iff_ne, ne_eq, bne_eq_false_iff_eq, beq_iff_eq, beq_eq_false_iff_ne, Bool.not_eq_true', Bool.not_eq_false', Bool.and_eq_true, Bool.or_eq_true, Int.natCast_inj] at hc)
  · have hc' := hq.1 hc
    have hi12 : i ≤ 12 := by have := Nat.div_le_self (maxL a).toNat (gcdL a); omega
    (repeat (first | refine VC.seq ?_ | refine VC.block ?_ | refine VC.kill ?_ | refine VC.skip ?_ | refine VC.exit ?_ | refine VC.regA ?_ | refine VC.condT ?_ | refine VC.condF ?_))
    refine VC.regCA ?_
    refine VO.call0A (no_orc 58 (by decide)) (divisor_ok a (fun x hx => by have := okJ_mem h x hx; omega) hl) ?_
    refine VO.endA ?_
    refine ⟨_, i + 1, ?_, ⟨rfl, by omega⟩, ?_⟩
    · omega
    · (apply Go.Ab.V.G.weak; constructor <;> simp (config := {decide := true}) only [PT.Le, inV, mkB, PT.set, VSt.kill, VSt.adopt, VSt.alloc, PT.filt, PT.map, List.map_cons, List.map_nil, noref, norefB, deadB, deadV, nos, nm, nmL, nmB, nmE, Pa.eqb, cond_true, cond_false, Bool.not_true, Bool.not_false, Bool.and_true, Bool.true_and, nmL_vi, flV_len, flP_len, flV_nm, flV_ok, flV_pv, flP_map, drop_flP, drop_flV, putC_flV, eqV2, eqV3, bneT, bneF, decide_true, decide_false, frzL_vi, frzL_flV, nmE_ag, nmE_at, frzE_ag, frzE_at, ofAg_len, ofAt_len, atL_vi, nmL_map_p, frzL_map_p, okL_p, toPVs_p, repsZ, nmL_reps, putC_vi, get_flV0, get_flV1, Int.toNat_zero, Int.toNat_one, Int.reduceToNat, eqV_slice, eqV_ptr, eqV_func, nilS, nilP, nilF, nmL_append, true_or, or_true, and_self, true_and, and_true, Option.some.injEq, reduceCtorEq, false_or, or_false, VV.p.injEq, PV.at.injEq, Value.int.injEq, sl1, vi, bl1, vb, nilV])
      · rw [Int.natCast_add, Int.add_mul, Int.natCast_one, Int.one_mul]
      · show VB.cells (List.map vi (L (i + 1))) = _
        have : L (i + 1) = L i ++ [(i : Int) * gcdL a] := by simp only [L, List.range_succ, List.map_append, List.map_cons, List.map_nil]
        rw [this, List.map_append]; rfl
  · have hi' : i = (maxL a).toNat / gcdL a + 1 := by
      have : ¬ i ≤ (maxL a).toNat / gcdL a := fun h => hc (hq.2 h)
      omega
    (repeat (first | refine VC.seq ?_ | refine VC.block ?_ | refine VC.kill ?_ | refine VC.skip ?_ | refine VC.exit ?_ | refine VC.regA ?_ | refine VC.condT ?_ | refine VC.condF ?_))
    have e : L i = amts a := by rw [hi']; rfl
    have e2 : (amts a).length = i := by rw [← e, hL]
    rw [e, e2]
    refine VC.ret (Fin.of rfl rfl ?_ rfl rfl ?_)
    · simp [mkB, PT.set, PT.Le, VSt.kill, bl1]
    · simp [subs, nm, nmL, nmsB, nmB, bl1, nmL_vi, nos, Pa.eqb, vi]

theorem CloneO_ok (l : List Int) (h0 : 1 ≤ l.length) (hl : l.length ≤ 1000) : VCall cfg 63 [sl1 l] [] [p5] (.os 1 p5 l.length) [(p5, bl1 l)] := by
  (refine VCall.mk (fn := a63) rfl rfl rfl ?_; simp only [a63, inV, mkB, nmsL, PT.set])
  have h : l.length ≠ 0 := by omega
  (repeat (first | refine VC.seq ?_ | refine VC.block ?_ | refine VC.kill ?_ | refine VC.skip ?_ | refine VC.exit ?_ | refine VC.regA ?_ | refine VC.condT ?_ | refine VC.condF ?_))
  refine VC.ret (Fin.of rfl rfl ?_ rfl rfl ?_)
  · simp [mkB, PT.set, PT.Le, VSt.kill, bl1]
  · simp [subs, nm, nmL, nmsB, nmB, bl1, nmL_vi, nos, Pa.eqb, vi]
set_option maxHeartbeats 4000000 in
theorem PourO_nil (x f : List Int) (hx : okJ x) (hf : fillB x f = true) : VCall cfg 40 [sl1 x, sl1 f, nilV] [] [p5] (.tup [.os 1 p5 f.length, vi 0, vi 0]) [(p5, bl1 f)] := by
  have hl : x.length ≤ 9223372036854775807 := by have := hx.2.1; omega
  have hx4 : x.length ≤ 4 := hx.2.1
  have hlf : f.length = x.length := ((fillB_iff x f).1 hf).1
  have ho := opens x false [f] hl (by simp; omega) (by simp)
  have hv : openV x [f] = 0 := by unfold openV; rw [if_pos hx, if_pos (by simp [hf])]
  rw [openJ, hv, if_pos rfl] at ho
  have hof := of_ok f (by have := hx.2.1; omega)
  have hP := pad4_len f (by omega)
  have hpc := putC_full [VV.p (.at (.int .i64 0)), .p (.at (.int .i64 0)), .p (.at (.int .i64 0)), .p (.at (.int .i64 0))] ((pad4 f).map vi) (by simp [hP])
  have hble : Nat.ble x.length 4 = true := by rw [Nat.ble_eq]; exact hx.2.1
  have htk : List.take x.length ((pad4 f).map pi) = f.map pi := by rw [← List.map_take, pad4, List.take_append_of_le_length (by omega), ← hlf, List.take_length]
  have k3 := CloneO_ok f (by rw [hlf]; exact hx.1) (by omega)
  unfold jugP at ho
  (refine VCall.mk (fn := a40) rfl rfl rfl ?_; simp only [a40, inV, mkB, nmsL, PT.set])
  (repeat (first | refine VC.seq ?_ | refine VC.block ?_ | refine VC.kill ?_ | refine VC.skip ?_ | refine VC.exit ?_ | refine VC.regA ?_ | refine VC.condT ?_ | refine VC.condF ?_))
  refine VC.regCA ?_
  refine VO.moreA ?_
  refine VO.frzA p20 ?_
  refine VO.call0A (no_orc 46 (by decide)) ho ?_
  refine VO.endA ?_
  (repeat (first | refine VC.seq ?_ | refine VC.block ?_ | refine VC.kill ?_ | refine VC.skip ?_ | refine VC.exit ?_ | refine VC.regA ?_ | refine VC.condT ?_ | refine VC.condF ?_))
  refine VC.regCA ?_
  refine VO.moreA ?_
  refine VO.call0A (no_orc 48 (by decide)) hof ?_
  apply VO.uptoE
  · (simp (config := {decide := false, maxSteps := 1000000}) (disch := omega) only [vev_call, putC_c0, putC_n0, putC_cs, ble0, List.getElem?_cons_zero, List.getElem?_cons_succ, runU, isCall, wantV, vev, evV, ofVal, ofAtom, atomB, cond_true, cond_false, PT.get, PT.set, PT.filt, PT.map, Option.getD_some, Option.getD_none, ret1V, ret1X, v_ld, v_ias, v_iad, v_fad, v_slsl, v_slarr, v_st, v_app, v_cpy, v_len, v_look, v_mset, elsV, partV, newV, free, atV, atI, atL, toVal, cellsV, okV, VSt.put, VSt.kill, VSt.alloc, VSt.frz, VSt.adopt, noref, norefB, deadB, deadV, nos, nm, nmL, nmB, nmE, Pa.eqb, Bool.not_false, Bool.not_true, Bool.and_true, Bool.true_and, Bool.false_and, Bool.and_false, bin, intOps, intBin, cvt, un, goInt, bndsV, bndV, Option.map_some, Option.map_none, List.map_cons, List.map_nil, Int.toNat_natCast, Nat.mul_one, Nat.zero_add, beq_true, beq_false, beq_self_eq_true, List.length_map, List.length_cons, List.length_nil, List.length_append, fillV, pEvV, repsV, List.append_nil, List.nil_append, if_pos, if_neg, reduceIte, List.getElem?_map, List.getElem?_drop, Nat.add_zero, List.getElem?_eq_getElem, Go.IntWalk.i64_in, wrap_u64, tmod_pos, eq_self, true_and, and_true, and_self, List.all_cons, List.all_nil, nmL_vi, flV_len, flP_len, flV_nm, flV_ok, flV_pv, flP_map, drop_flP, drop_flV, putC_flV, eqV2, eqV3, bneT, bneF, decide_true, decide_false, frzL_vi, frzL_flV, nmE_ag, nmE_at, frzE_ag, frzE_at, ofAg_len, ofAt_len, atL_vi, nmL_map_p, frzL_map_p, okL_p, toPVs_p, repsZ, nmL_reps, putC_vi, get_flV0, get_flV1, Int.toNat_zero, Int.toNat_one, Int.reduceToNat, eqV_slice, eqV_ptr, eqV_func, nilS, nilP, nilF, nmL_append, okL_vi, toPVs_vi, toPVs, toPV, frzV, frzL, frzB, resVV, vi, vb, nilV, sl1, bl1, pi, foldV, max2, min2, max_eq, min_eq, Int.tdiv_eq_ediv_of_nonneg, Int.cast_ofNat_Int, Option.isSome_none, Option.isSome_some, Option.isNone_none, Option.isNone_some, and_false, false_and, sl2, sl1P, slP, min_cast, take_map_pi, map_pi, Nat.sub_zero, Nat.zero_mul, List.length_take, decide_eq_true, decide_eq_false, Bool.true_eq_false, Bool.false_eq_true, beqT, beqF, ibeq, ibne, List.take_zero, List.take_succ_cons, List.drop_zero, List.drop_succ_cons, List.drop_nil, List.take_nil, List.cons_append, Bool.not_true, Bool.not_false, hP, hpc])
    rfl
  (repeat (first | refine VC.seq ?_ | refine VC.block ?_ | refine VC.kill ?_ | refine VC.skip ?_ | refine VC.exit ?_ | refine VC.regA ?_ | refine VC.condT ?_ | refine VC.condF ?_))
  refine VC.loopG (fun (i : Nat) => ⟨inV [p9, p11, p12, p29, p30, p31] [.p (.fp 0 (jugC x false)), .op 0 p11 0, vi 0, nilV, vi 0, vi 0] .lf, mkB [(p11, .cells ((pad4 f).map vi))] .lf, [], none⟩) (fun n i => n = 0 ∧ i = 0) (x := 0) ?_ ⟨rfl, rfl⟩ ?_
  · (apply Go.Ab.V.G.weak; constructor <;> simp (config := {decide := true}) only [PT.Le, inV, mkB, PT.set, VSt.kill, VSt.adopt, VSt.alloc, PT.filt, PT.map, List.map_cons, List.map_nil, noref, norefB, deadB, deadV, nos, nm, nmL, nmB, nmE, Pa.eqb, cond_true, cond_false, Bool.not_true, Bool.not_false, Bool.and_true, Bool.true_and, nmL_vi, flV_len, flP_len, flV_nm, flV_ok, flV_pv, flP_map, drop_flP, drop_flV, putC_flV, eqV2, eqV3, bneT, bneF, decide_true, decide_false, frzL_vi, frzL_flV, nmE_ag, nmE_at, frzE_ag, frzE_at, ofAg_len, ofAt_len, atL_vi, nmL_map_p, frzL_map_p, okL_p, toPVs_p, repsZ, nmL_reps, putC_vi, get_flV0, get_flV1, Int.toNat_zero, Int.toNat_one, Int.reduceToNat, eqV_slice, eqV_ptr, eqV_func, nilS, nilP, nilF, nmL_append, true_or, or_true, and_self, true_and, and_true, Option.some.injEq, reduceCtorEq, false_or, or_false, VV.p.injEq, PV.at.injEq, Value.int.injEq, sl1, vi, bl1, vb, nilV, pi, slP])
  rintro n i ⟨hn, hi⟩
  simp only [inV, PT.set, mkB]
  (repeat (first | refine VC.seq ?_ | refine VC.block ?_ | refine VC.kill ?_ | refine VC.skip ?_ | refine VC.exit ?_ | refine VC.regA ?_ | refine VC.condT ?_ | refine VC.condF ?_))
  apply VC.regC
  · (simp (config := {decide := false, maxSteps := 1000000}) (disch := omega) only [vev_call, putC_c0, putC_n0, putC_cs, ble0, List.getElem?_cons_zero, List.getElem?_cons_succ, runU, isCall, wantV, vev, evV, ofVal, ofAtom, atomB, cond_true, cond_false, PT.get, PT.set, PT.filt, PT.map, Option.getD_some, Option.getD_none, ret1V, ret1X, v_ld, v_ias, v_iad, v_fad, v_slsl, v_slarr, v_st, v_app, v_cpy, v_len, v_look, v_mset, elsV, partV, newV, free, atV, atI, atL, toVal, cellsV, okV, VSt.put, VSt.kill, VSt.alloc, VSt.frz, VSt.adopt, noref, norefB, deadB, deadV, nos, nm, nmL, nmB, nmE, Pa.eqb, Bool.not_false, Bool.not_true, Bool.and_true, Bool.true_and, Bool.false_and, Bool.and_false, bin, intOps, intBin, cvt, un, goInt, bndsV, bndV, Option.map_some, Option.map_none, List.map_cons, List.map_nil, Int.toNat_natCast, Nat.mul_one, Nat.zero_add, beq_true, beq_false, beq_self_eq_true, List.length_map, List.length_cons, List.length_nil, List.length_append, fillV, pEvV, repsV, List.append_nil, List.nil_append, if_pos, if_neg, reduceIte, List.getElem?_map, List.getElem?_drop, Nat.add_zero, List.getElem?_eq_getElem, Go.IntWalk.i64_in, wrap_u64, tmod_pos, eq_self, true_and, and_true, and_self, List.all_cons, List.all_nil, nmL_vi, flV_len, flP_len, flV_nm, flV_ok, flV_pv, flP_map, drop_flP, drop_flV, putC_flV, eqV2, eqV3, bneT, bneF, decide_true, decide_false, frzL_vi, frzL_flV, nmE_ag, nmE_at, frzE_ag, frzE_at, ofAg_len, ofAt_len, atL_vi, nmL_map_p, frzL_map_p, okL_p, toPVs_p, repsZ, nmL_reps, putC_vi, get_flV0, get_flV1, Int.toNat_zero, Int.toNat_one, Int.reduceToNat, eqV_slice, eqV_ptr, eqV_func, nilS, nilP, nilF, nmL_append, okL_vi, toPVs_vi, toPVs, toPV, frzV, frzL, frzB, resVV, vi, vb, nilV, sl1, bl1, pi, foldV, max2, min2, max_eq, min_eq, Int.tdiv_eq_ediv_of_nonneg, Int.cast_ofNat_Int, Option.isSome_none, Option.isSome_some, Option.isNone_none, Option.isNone_some, and_false, false_and, sl2, sl1P, slP, min_cast, take_map_pi, map_pi, Nat.sub_zero, Nat.zero_mul, List.length_take, decide_eq_true, decide_eq_false, Bool.true_eq_false, Bool.false_eq_true, beqT, beqF, ibeq, ibne, List.take_zero, List.take_succ_cons, List.drop_zero, List.drop_succ_cons, List.drop_nil, List.take_nil, List.cons_append, Bool.not_true, Bool.not_false, jugC])
    rfl
  refine VO.frzA p11 (hb := rfl) (hc := toPVs_vi (pad4 f)) ?_
  simp only [VSt.frz, VSt.put, PT.map, PT.set, frzL, frzV, frzB, Option.map_some, Option.map_none, List.length_map, hP, Nat.mul_one, Nat.zero_add, hble, Pa.eqb, ble0, Bool.and_true, cond_true, List.drop_zero, htk]
  refine VO.callN (no_orc 63 (by decide)) k3 ?_ rfl rfl rfl rfl rfl ?_
  · (simp (config := {decide := false, maxSteps := 1000000}) (disch := omega) only [vev_call, putC_c0, putC_n0, putC_cs, ble0, List.getElem?_cons_zero, List.getElem?_cons_succ, runU, isCall, wantV, vev, evV, ofVal, ofAtom, atomB, cond_true, cond_false, PT.get, PT.set, PT.filt, PT.map, Option.getD_some, Option.getD_none, ret1V, ret1X, v_ld, v_ias, v_iad, v_fad, v_slsl, v_slarr, v_st, v_app, v_cpy, v_len, v_look, v_mset, elsV, partV, newV, free, atV, atI, atL, toVal, cellsV, okV, VSt.put, VSt.kill, VSt.alloc, VSt.frz, VSt.adopt, noref, norefB, deadB, deadV, nos, nm, nmL, nmB, nmE, Pa.eqb, Bool.not_false, Bool.not_true, Bool.and_true, Bool.true_and, Bool.false_and, Bool.and_false, bin, intOps, intBin, cvt, un, goInt, bndsV, bndV, Option.map_some, Option.map_none, List.map_cons, List.map_nil, Int.toNat_natCast, Nat.mul_one, Nat.zero_add, beq_true, beq_false, beq_self_eq_true, List.length_map, List.length_cons, List.length_nil, List.length_append, fillV, pEvV, repsV, List.append_nil, List.nil_append, if_pos, if_neg, reduceIte, List.getElem?_map, List.getElem?_drop, Nat.add_zero, List.getElem?_eq_getElem, Go.IntWalk.i64_in, wrap_u64, tmod_pos, eq_self, true_and, and_true, and_self, List.all_cons, List.all_nil, nmL_vi, flV_len, flP_len, flV_nm, flV_ok, flV_pv, flP_map, drop_flP, drop_flV, putC_flV, eqV2, eqV3, bneT, bneF, decide_true, decide_false, frzL_vi, frzL_flV, nmE_ag, nmE_at, frzE_ag, frzE_at, ofAg_len, ofAt_len, atL_vi, nmL_map_p, frzL_map_p, okL_p, toPVs_p, repsZ, nmL_reps, putC_vi, get_flV0, get_flV1, Int.toNat_zero, Int.toNat_one, Int.reduceToNat, eqV_slice, eqV_ptr, eqV_func, nilS, nilP, nilF, nmL_append, okL_vi, toPVs_vi, toPVs, toPV, frzV, frzL, frzB, resVV, vi, vb, nilV, sl1, bl1, pi, foldV, max2, min2, max_eq, min_eq, Int.tdiv_eq_ediv_of_nonneg, Int.cast_ofNat_Int, Option.isSome_none, Option.isSome_some, Option.isNone_none, Option.isNone_some, and_false, false_and, sl2, sl1P, slP, min_cast, take_map_pi, map_pi, Nat.sub_zero, Nat.zero_mul, List.length_take, decide_eq_true, decide_eq_false, Bool.true_eq_false, Bool.false_eq_true, beqT, beqF, ibeq, ibne, List.take_zero, List.take_succ_cons, List.drop_zero, List.drop_succ_cons, List.drop_nil, List.take_nil, List.cons_append, Bool.not_true, Bool.not_false, hP, hble, htk, hlf])
  (simp only [filtN, filtNB, mkB, PT.set, VSt.put, PT.filt, noref, norefB, nos, nm, nmL, nmB, nmL_vi, nmL_map_p, nmE_ag, flV_nm, List.nil_append, List.append_nil, Pa.eqb, cond_true, cond_false, Bool.and_true, Bool.not_false, Bool.not_true])
  refine VO.endA ?_
  (repeat (first | refine VC.seq ?_ | refine VC.block ?_ | refine VC.kill ?_ | refine VC.skip ?_ | refine VC.exit ?_ | refine VC.regA ?_ | refine VC.condT ?_ | refine VC.condF ?_))
  refine VC.ret (Fin.of rfl rfl ?_ rfl rfl ?_)
  · simp [mkB, PT.set, PT.Le, VSt.kill, bl1]
  · simp [subs, nm, nmL, nmsB, nmB, bl1, nmL_vi, nos, Pa.eqb, vi]
end Go.Ab.Jug

namespace Go.Ab.Jug
open Go.Ab.V
set_option maxRecDepth 100000
end Go.Ab.Jug

namespace Go.Ab.Jug
open Go.Ab.V
set_option maxRecDepth 100000
end Go.Ab.Jug

namespace Go.Ab.Jug
open Go.Ab.V
set_option maxRecDepth 100000
/-! ### What is reached is closed under steps -/
/-! ### Sums modulo the greatest -/
/-- What may be added. -/
def Adds (M : Nat) (S : Nat → Prop) (k : Nat) : Prop := ∀ r, r < M → S r → S ((r + k) % M)
theorem Adds.zero {M : Nat} {S : Nat → Prop} : Adds M S 0 := fun r hr h => by rw [Nat.add_zero, Nat.mod_eq_of_lt hr]; exact h
theorem Adds.add {M : Nat} {S : Nat → Prop} (hM : 0 < M) {a b : Nat} (ha : Adds M S a) (hb : Adds M S b) : Adds M S (a + b) := fun r hr h => by
  have := hb _ (Nat.mod_lt _ hM) (ha r hr h)
  rw [Nat.mod_add_mod, Nat.add_assoc] at this
  exact this
theorem Adds.mul {M : Nat} {S : Nat → Prop} (hM : 0 < M) {a : Nat} (ha : Adds M S a) : ∀ n, Adds M S (n * a)
  | 0 => by rw [Nat.zero_mul]; exact .zero
  | n + 1 => by rw [Nat.succ_mul]; exact (Adds.mul hM ha n).add hM ha
theorem Adds.congr {M : Nat} {S : Nat → Prop} {a b : Nat} (h : a % M = b % M) (ha : Adds M S a) : Adds M S b := fun r hr hs => by
  rw [show (r + b) % M = (r + a) % M from by rw [Nat.add_mod, ← h, ← Nat.add_mod]]; exact ha r hr hs
theorem Adds.mod {M : Nat} {S : Nat → Prop} (hM : 0 < M) {a b : Nat} (ha : Adds M S a) (hb : Adds M S b) : Adds M S (b % a) := by
  refine Adds.congr ?_ (hb.add hM (Adds.mul hM ha ((M - 1) * (b / a))))
  have h1 := Nat.div_add_mod b a
  have h2 : b + (M - 1) * (b / a) * a = b % a + M * (a * (b / a)) := by
    have : (M - 1) * (b / a) * a + a * (b / a) = M * (a * (b / a)) := by
      rw [Nat.mul_assoc, Nat.mul_comm (b / a) a, ← Nat.succ_mul, show (M - 1).succ = M from by omega]
    omega
  rw [h2, Nat.add_mul_mod_self_left]
theorem Adds.gcd {M : Nat} {S : Nat → Prop} (hM : 0 < M) (a b : Nat) : Adds M S a → Adds M S b → Adds M S (Nat.gcd a b) := by
  induction a, b using Nat.gcd.induction with
  | H0 n => intro _ h; rw [Nat.gcd_zero_left]; exact h
  | H1 m n hm ih =>
    intro h1 h2
    rw [Nat.gcd_rec]
    exact ih (h1.mod hM h2) h1
/-! ### Jugs -/
section
variable {x : List Int} {H : List Int → Prop} (hx : okJ x) (hc : ∀ g a b, H g → isR x.length a b = true → H (stepR x g a b))
include hx hc
end
end Go.Ab.Jug

namespace Go.Ab.Jug
open Go.Ab.V
set_option maxRecDepth 100000
/-! ### The amounts -/
end Go.Ab.Jug

namespace Go.Ab.Jug
open Go.Ab.V
set_option maxRecDepth 100000
theorem amts_len {x : List Int} (hx : okJ x) : (amts x).length ≤ 13 := by
  have := maxL_pos hx
  have h := Nat.div_le_self (maxL x).toNat (gcdL x)
  simp only [amts, List.length_map, List.length_range]; omega
end Go.Ab.Jug
