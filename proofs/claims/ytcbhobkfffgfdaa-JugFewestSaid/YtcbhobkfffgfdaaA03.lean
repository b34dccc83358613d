/- A part of the proof of a law: an evaluator of the code, proved sound against the model, and contracts of functions over it. No condition. -/
import Derived.Test.YtcbhobkfffgfdaaProg
import Derived.Test.YtcbhobkfffgfdaaA02
set_option linter.unusedSimpArgs false
set_option linter.unusedVariables false
namespace Go.Ab.Jug
noncomputable section
set_option maxRecDepth 100000
@[reducible] def p0 : Pa := .z
@[reducible] def p1 : Pa := (.l .z)
@[reducible] def p2 : Pa := (.r .z)
@[reducible] def p3 : Pa := (.l (.l .z))
@[reducible] def p4 : Pa := (.r (.l .z))
@[reducible] def p5 : Pa := (.l (.r .z))
@[reducible] def p6 : Pa := (.r (.r .z))
@[reducible] def p7 : Pa := (.l (.l (.l .z)))
@[reducible] def p8 : Pa := (.r (.l (.l .z)))
@[reducible] def p9 : Pa := (.l (.r (.l .z)))
@[reducible] def p10 : Pa := (.r (.r (.l .z)))
@[reducible] def p11 : Pa := (.l (.l (.r .z)))
@[reducible] def p12 : Pa := (.r (.l (.r .z)))
@[reducible] def p13 : Pa := (.l (.r (.r .z)))
@[reducible] def p14 : Pa := (.r (.r (.r .z)))
@[reducible] def p15 : Pa := (.l (.l (.l (.l .z))))
@[reducible] def p16 : Pa := (.r (.l (.l (.l .z))))
@[reducible] def p17 : Pa := (.l (.r (.l (.l .z))))
@[reducible] def p18 : Pa := (.r (.r (.l (.l .z))))
@[reducible] def p19 : Pa := (.l (.l (.r (.l .z))))
@[reducible] def p20 : Pa := (.r (.l (.r (.l .z))))
@[reducible] def p21 : Pa := (.l (.r (.r (.l .z))))
@[reducible] def p22 : Pa := (.r (.r (.r (.l .z))))
@[reducible] def p23 : Pa := (.l (.l (.l (.r .z))))
@[reducible] def p24 : Pa := (.r (.l (.l (.r .z))))
@[reducible] def p25 : Pa := (.l (.r (.l (.r .z))))
@[reducible] def p26 : Pa := (.r (.r (.l (.r .z))))
@[reducible] def p27 : Pa := (.l (.l (.r (.r .z))))
@[reducible] def p28 : Pa := (.r (.l (.r (.r .z))))
@[reducible] def p29 : Pa := (.l (.r (.r (.r .z))))
@[reducible] def p30 : Pa := (.r (.r (.r (.r .z))))
@[reducible] def p31 : Pa := (.l (.l (.l (.l (.l .z)))))
@[reducible] def p32 : Pa := (.r (.l (.l (.l (.l .z)))))
@[reducible] def p33 : Pa := (.l (.r (.l (.l (.l .z)))))
@[reducible] def p34 : Pa := (.r (.r (.l (.l (.l .z)))))
@[reducible] def p35 : Pa := (.l (.l (.r (.l (.l .z)))))
@[reducible] def p36 : Pa := (.r (.l (.r (.l (.l .z)))))
@[reducible] def p37 : Pa := (.l (.r (.r (.l (.l .z)))))
@[reducible] def p38 : Pa := (.r (.r (.r (.l (.l .z)))))
@[reducible] def p39 : Pa := (.l (.l (.l (.r (.l .z)))))
@[reducible] def p40 : Pa := (.r (.l (.l (.r (.l .z)))))
@[reducible] def p41 : Pa := (.l (.r (.l (.r (.l .z)))))
@[reducible] def p42 : Pa := (.r (.r (.l (.r (.l .z)))))
@[reducible] def p43 : Pa := (.l (.l (.r (.r (.l .z)))))
@[reducible] def p44 : Pa := (.r (.l (.r (.r (.l .z)))))
@[reducible] def p45 : Pa := (.l (.r (.r (.r (.l .z)))))
@[reducible] def p46 : Pa := (.r (.r (.r (.r (.l .z)))))
@[reducible] def p47 : Pa := (.l (.l (.l (.l (.r .z)))))
@[reducible] def p48 : Pa := (.r (.l (.l (.l (.r .z)))))
@[reducible] def p49 : Pa := (.l (.r (.l (.l (.r .z)))))
@[reducible] def p50 : Pa := (.r (.r (.l (.l (.r .z)))))
@[reducible] def p51 : Pa := (.l (.l (.r (.l (.r .z)))))
@[reducible] def p52 : Pa := (.r (.l (.r (.l (.r .z)))))
@[reducible] def p53 : Pa := (.l (.r (.r (.l (.r .z)))))
@[reducible] def p54 : Pa := (.r (.r (.r (.l (.r .z)))))
@[reducible] def p55 : Pa := (.l (.l (.l (.r (.r .z)))))
@[reducible] def p56 : Pa := (.r (.l (.l (.r (.r .z)))))
@[reducible] def p57 : Pa := (.l (.r (.l (.r (.r .z)))))
@[reducible] def p58 : Pa := (.r (.r (.l (.r (.r .z)))))
@[reducible] def p59 : Pa := (.l (.l (.r (.r (.r .z)))))
@[reducible] def p60 : Pa := (.r (.l (.r (.r (.r .z)))))
@[reducible] def p61 : Pa := (.l (.r (.r (.r (.r .z)))))
@[reducible] def p62 : Pa := (.r (.r (.r (.r (.r .z)))))
@[reducible] def p63 : Pa := (.l (.l (.l (.l (.l (.l .z))))))
@[reducible] def p64 : Pa := (.r (.l (.l (.l (.l (.l .z))))))
@[reducible] def p65 : Pa := (.l (.r (.l (.l (.l (.l .z))))))
@[reducible] def p66 : Pa := (.r (.r (.l (.l (.l (.l .z))))))
@[reducible] def p67 : Pa := (.l (.l (.r (.l (.l (.l .z))))))
@[reducible] def p68 : Pa := (.r (.l (.r (.l (.l (.l .z))))))
@[reducible] def p69 : Pa := (.l (.r (.r (.l (.l (.l .z))))))
@[reducible] def p70 : Pa := (.r (.r (.r (.l (.l (.l .z))))))
@[reducible] def p71 : Pa := (.l (.l (.l (.r (.l (.l .z))))))
@[reducible] def p72 : Pa := (.r (.l (.l (.r (.l (.l .z))))))
@[reducible] def p73 : Pa := (.l (.r (.l (.r (.l (.l .z))))))
@[reducible] def p74 : Pa := (.r (.r (.l (.r (.l (.l .z))))))
@[reducible] def p75 : Pa := (.l (.l (.r (.r (.l (.l .z))))))
@[reducible] def p76 : Pa := (.r (.l (.r (.r (.l (.l .z))))))
@[reducible] def p77 : Pa := (.l (.r (.r (.r (.l (.l .z))))))
@[reducible] def p78 : Pa := (.r (.r (.r (.r (.l (.l .z))))))
@[reducible] def p79 : Pa := (.l (.l (.l (.l (.r (.l .z))))))
@[reducible] def p80 : Pa := (.r (.l (.l (.l (.r (.l .z))))))
@[reducible] def p81 : Pa := (.l (.r (.l (.l (.r (.l .z))))))
@[reducible] def p82 : Pa := (.r (.r (.l (.l (.r (.l .z))))))
@[reducible] def p83 : Pa := (.l (.l (.r (.l (.r (.l .z))))))
@[reducible] def p84 : Pa := (.r (.l (.r (.l (.r (.l .z))))))
@[reducible] def p85 : Pa := (.l (.r (.r (.l (.r (.l .z))))))
@[reducible] def p86 : Pa := (.r (.r (.r (.l (.r (.l .z))))))
@[reducible] def p87 : Pa := (.l (.l (.l (.r (.r (.l .z))))))
@[reducible] def p88 : Pa := (.r (.l (.l (.r (.r (.l .z))))))
@[reducible] def p89 : Pa := (.l (.r (.l (.r (.r (.l .z))))))
@[reducible] def p90 : Pa := (.r (.r (.l (.r (.r (.l .z))))))
@[reducible] def p91 : Pa := (.l (.l (.r (.r (.r (.l .z))))))
@[reducible] def p92 : Pa := (.r (.l (.r (.r (.r (.l .z))))))
@[reducible] def p93 : Pa := (.l (.r (.r (.r (.r (.l .z))))))
@[reducible] def p94 : Pa := (.r (.r (.r (.r (.r (.l .z))))))
@[reducible] def p95 : Pa := (.l (.l (.l (.l (.l (.r .z))))))
@[reducible] def p96 : Pa := (.r (.l (.l (.l (.l (.r .z))))))
@[reducible] def p97 : Pa := (.l (.r (.l (.l (.l (.r .z))))))
@[reducible] def p98 : Pa := (.r (.r (.l (.l (.l (.r .z))))))
@[reducible] def p99 : Pa := (.l (.l (.r (.l (.l (.r .z))))))
@[reducible] def p100 : Pa := (.r (.l (.r (.l (.l (.r .z))))))
@[reducible] def p101 : Pa := (.l (.r (.r (.l (.l (.r .z))))))
@[reducible] def p102 : Pa := (.r (.r (.r (.l (.l (.r .z))))))
@[reducible] def p103 : Pa := (.l (.l (.l (.r (.l (.r .z))))))
@[reducible] def p104 : Pa := (.r (.l (.l (.r (.l (.r .z))))))
@[reducible] def p105 : Pa := (.l (.r (.l (.r (.l (.r .z))))))
@[reducible] def p106 : Pa := (.r (.r (.l (.r (.l (.r .z))))))
@[reducible] def p107 : Pa := (.l (.l (.r (.r (.l (.r .z))))))
@[reducible] def p108 : Pa := (.r (.l (.r (.r (.l (.r .z))))))
@[reducible] def p109 : Pa := (.l (.r (.r (.r (.l (.r .z))))))
@[reducible] def p110 : Pa := (.r (.r (.r (.r (.l (.r .z))))))
@[reducible] def p111 : Pa := (.l (.l (.l (.l (.r (.r .z))))))
@[reducible] def p112 : Pa := (.r (.l (.l (.l (.r (.r .z))))))
@[reducible] def p113 : Pa := (.l (.r (.l (.l (.r (.r .z))))))
@[reducible] def p114 : Pa := (.r (.r (.l (.l (.r (.r .z))))))
@[reducible] def p115 : Pa := (.l (.l (.r (.l (.r (.r .z))))))
@[reducible] def p116 : Pa := (.r (.l (.r (.l (.r (.r .z))))))
@[reducible] def p117 : Pa := (.l (.r (.r (.l (.r (.r .z))))))
@[reducible] def p118 : Pa := (.r (.r (.r (.l (.r (.r .z))))))
@[reducible] def p119 : Pa := (.l (.l (.l (.r (.r (.r .z))))))
@[reducible] def p120 : Pa := (.r (.l (.l (.r (.r (.r .z))))))
@[reducible] def p121 : Pa := (.l (.r (.l (.r (.r (.r .z))))))
@[reducible] def p122 : Pa := (.r (.r (.l (.r (.r (.r .z))))))
@[reducible] def p123 : Pa := (.l (.l (.r (.r (.r (.r .z))))))
@[reducible] def p124 : Pa := (.r (.l (.r (.r (.r (.r .z))))))
@[reducible] def p125 : Pa := (.l (.r (.r (.r (.r (.r .z))))))
@[reducible] def p126 : Pa := (.r (.r (.r (.r (.r (.r .z))))))
@[reducible] def p127 : Pa := (.l (.l (.l (.l (.l (.l (.l .z)))))))
@[reducible] def p128 : Pa := (.r (.l (.l (.l (.l (.l (.l .z)))))))
@[reducible] def p129 : Pa := (.l (.r (.l (.l (.l (.l (.l .z)))))))
@[reducible] def p130 : Pa := (.r (.r (.l (.l (.l (.l (.l .z)))))))
@[reducible] def p131 : Pa := (.l (.l (.r (.l (.l (.l (.l .z)))))))
@[reducible] def p132 : Pa := (.r (.l (.r (.l (.l (.l (.l .z)))))))
@[reducible] def p133 : Pa := (.l (.r (.r (.l (.l (.l (.l .z)))))))
@[reducible] def p134 : Pa := (.r (.r (.r (.l (.l (.l (.l .z)))))))
@[reducible] def p135 : Pa := (.l (.l (.l (.r (.l (.l (.l .z)))))))
@[reducible] def p136 : Pa := (.r (.l (.l (.r (.l (.l (.l .z)))))))
@[reducible] def p137 : Pa := (.l (.r (.l (.r (.l (.l (.l .z)))))))
@[reducible] def p138 : Pa := (.r (.r (.l (.r (.l (.l (.l .z)))))))
@[reducible] def p139 : Pa := (.l (.l (.r (.r (.l (.l (.l .z)))))))
@[reducible] def p140 : Pa := (.r (.l (.r (.r (.l (.l (.l .z)))))))
@[reducible] def p141 : Pa := (.l (.r (.r (.r (.l (.l (.l .z)))))))
@[reducible] def p142 : Pa := (.r (.r (.r (.r (.l (.l (.l .z)))))))
@[reducible] def p143 : Pa := (.l (.l (.l (.l (.r (.l (.l .z)))))))
@[reducible] def p144 : Pa := (.r (.l (.l (.l (.r (.l (.l .z)))))))
@[reducible] def p145 : Pa := (.l (.r (.l (.l (.r (.l (.l .z)))))))
@[reducible] def p146 : Pa := (.r (.r (.l (.l (.r (.l (.l .z)))))))
@[reducible] def p147 : Pa := (.l (.l (.r (.l (.r (.l (.l .z)))))))
@[reducible] def p148 : Pa := (.r (.l (.r (.l (.r (.l (.l .z)))))))
@[reducible] def p149 : Pa := (.l (.r (.r (.l (.r (.l (.l .z)))))))
@[reducible] def p150 : Pa := (.r (.r (.r (.l (.r (.l (.l .z)))))))
@[reducible] def p151 : Pa := (.l (.l (.l (.r (.r (.l (.l .z)))))))
@[reducible] def p152 : Pa := (.r (.l (.l (.r (.r (.l (.l .z)))))))
@[reducible] def p153 : Pa := (.l (.r (.l (.r (.r (.l (.l .z)))))))
@[reducible] def p154 : Pa := (.r (.r (.l (.r (.r (.l (.l .z)))))))
@[reducible] def p155 : Pa := (.l (.l (.r (.r (.r (.l (.l .z)))))))
@[reducible] def p156 : Pa := (.r (.l (.r (.r (.r (.l (.l .z)))))))
@[reducible] def p157 : Pa := (.l (.r (.r (.r (.r (.l (.l .z)))))))
@[reducible] def p158 : Pa := (.r (.r (.r (.r (.r (.l (.l .z)))))))
@[reducible] def p159 : Pa := (.l (.l (.l (.l (.l (.r (.l .z)))))))
@[reducible] def p160 : Pa := (.r (.l (.l (.l (.l (.r (.l .z)))))))
@[reducible] def p161 : Pa := (.l (.r (.l (.l (.l (.r (.l .z)))))))
@[reducible] def p162 : Pa := (.r (.r (.l (.l (.l (.r (.l .z)))))))
@[reducible] def p163 : Pa := (.l (.l (.r (.l (.l (.r (.l .z)))))))
@[reducible] def p164 : Pa := (.r (.l (.r (.l (.l (.r (.l .z)))))))
@[reducible] def p165 : Pa := (.l (.r (.r (.l (.l (.r (.l .z)))))))
@[reducible] def p166 : Pa := (.r (.r (.r (.l (.l (.r (.l .z)))))))
@[reducible] def p167 : Pa := (.l (.l (.l (.r (.l (.r (.l .z)))))))
@[reducible] def p168 : Pa := (.r (.l (.l (.r (.l (.r (.l .z)))))))
@[reducible] def p169 : Pa := (.l (.r (.l (.r (.l (.r (.l .z)))))))
@[reducible] def p170 : Pa := (.r (.r (.l (.r (.l (.r (.l .z)))))))
@[reducible] def p171 : Pa := (.l (.l (.r (.r (.l (.r (.l .z)))))))
@[reducible] def p172 : Pa := (.r (.l (.r (.r (.l (.r (.l .z)))))))
@[reducible] def p173 : Pa := (.l (.r (.r (.r (.l (.r (.l .z)))))))
@[reducible] def p174 : Pa := (.r (.r (.r (.r (.l (.r (.l .z)))))))
@[reducible] def p175 : Pa := (.l (.l (.l (.l (.r (.r (.l .z)))))))
@[reducible] def p176 : Pa := (.r (.l (.l (.l (.r (.r (.l .z)))))))
@[reducible] def p177 : Pa := (.l (.r (.l (.l (.r (.r (.l .z)))))))
@[reducible] def p178 : Pa := (.r (.r (.l (.l (.r (.r (.l .z)))))))
@[reducible] def p179 : Pa := (.l (.l (.r (.l (.r (.r (.l .z)))))))
@[reducible] def p180 : Pa := (.r (.l (.r (.l (.r (.r (.l .z)))))))
@[reducible] def p181 : Pa := (.l (.r (.r (.l (.r (.r (.l .z)))))))
@[reducible] def p182 : Pa := (.r (.r (.r (.l (.r (.r (.l .z)))))))
@[reducible] def p183 : Pa := (.l (.l (.l (.r (.r (.r (.l .z)))))))
@[reducible] def p184 : Pa := (.r (.l (.l (.r (.r (.r (.l .z)))))))
@[reducible] def p185 : Pa := (.l (.r (.l (.r (.r (.r (.l .z)))))))
@[reducible] def p186 : Pa := (.r (.r (.l (.r (.r (.r (.l .z)))))))
@[reducible] def p187 : Pa := (.l (.l (.r (.r (.r (.r (.l .z)))))))
@[reducible] def p188 : Pa := (.r (.l (.r (.r (.r (.r (.l .z)))))))
@[reducible] def p189 : Pa := (.l (.r (.r (.r (.r (.r (.l .z)))))))
@[reducible] def p190 : Pa := (.r (.r (.r (.r (.r (.r (.l .z)))))))
@[reducible] def p191 : Pa := (.l (.l (.l (.l (.l (.l (.r .z)))))))
@[reducible] def p192 : Pa := (.r (.l (.l (.l (.l (.l (.r .z)))))))
@[reducible] def p193 : Pa := (.l (.r (.l (.l (.l (.l (.r .z)))))))
@[reducible] def p194 : Pa := (.r (.r (.l (.l (.l (.l (.r .z)))))))
@[reducible] def p195 : Pa := (.l (.l (.r (.l (.l (.l (.r .z)))))))
@[reducible] def p196 : Pa := (.r (.l (.r (.l (.l (.l (.r .z)))))))
@[reducible] def p197 : Pa := (.l (.r (.r (.l (.l (.l (.r .z)))))))
@[reducible] def p198 : Pa := (.r (.r (.r (.l (.l (.l (.r .z)))))))
@[reducible] def p199 : Pa := (.l (.l (.l (.r (.l (.l (.r .z)))))))
def i1 : ST := (.nd undef .lf .lf)
def i6 : ST := (.nd undef (.nd undef (.nd undef .lf .lf) (.nd undef .lf .lf)) (.nd undef (.nd undef .lf .lf) .lf))
def i7 : ST := (.nd undef (.nd undef (.nd undef .lf .lf) (.nd undef .lf .lf)) (.nd undef (.nd undef .lf .lf) (.nd undef .lf .lf)))
def i8 : ST := (.nd undef (.nd undef (.nd undef (.nd undef .lf .lf) .lf) (.nd undef .lf .lf)) (.nd undef (.nd undef .lf .lf) (.nd undef .lf .lf)))
def i9 : ST := (.nd undef (.nd undef (.nd undef (.nd undef .lf .lf) .lf) (.nd undef .lf .lf)) (.nd undef (.nd undef (.nd undef .lf .lf) .lf) (.nd undef .lf .lf)))
def i12 : ST := (.nd undef (.nd undef (.nd undef (.nd undef .lf .lf) (.nd undef .lf .lf)) (.nd undef (.nd undef .lf .lf) .lf)) (.nd undef (.nd undef (.nd undef .lf .lf) .lf) (.nd undef (.nd undef .lf .lf) .lf)))
def i14 : ST := (.nd undef (.nd undef (.nd undef (.nd undef .lf .lf) (.nd undef .lf .lf)) (.nd undef (.nd undef .lf .lf) (.nd undef .lf .lf))) (.nd undef (.nd undef (.nd undef .lf .lf) (.nd undef .lf .lf)) (.nd undef (.nd undef .lf .lf) .lf)))
def i17 : ST := (.nd undef (.nd undef (.nd undef (.nd undef (.nd undef .lf .lf) .lf) (.nd undef .lf .lf)) (.nd undef (.nd undef .lf .lf) (.nd undef .lf .lf))) (.nd undef (.nd undef (.nd undef (.nd undef .lf .lf) .lf) (.nd undef .lf .lf)) (.nd undef (.nd undef .lf .lf) (.nd undef .lf .lf))))
def i19 : ST := (.nd undef (.nd undef (.nd undef (.nd undef (.nd undef .lf .lf) .lf) (.nd undef .lf .lf)) (.nd undef (.nd undef (.nd undef .lf .lf) .lf) (.nd undef .lf .lf))) (.nd undef (.nd undef (.nd undef (.nd undef .lf .lf) .lf) (.nd undef .lf .lf)) (.nd undef (.nd undef (.nd undef .lf .lf) .lf) (.nd undef .lf .lf))))
def i20 : ST := (.nd undef (.nd undef (.nd undef (.nd undef (.nd undef .lf .lf) .lf) (.nd undef (.nd undef .lf .lf) .lf)) (.nd undef (.nd undef (.nd undef .lf .lf) .lf) (.nd undef .lf .lf))) (.nd undef (.nd undef (.nd undef (.nd undef .lf .lf) .lf) (.nd undef .lf .lf)) (.nd undef (.nd undef (.nd undef .lf .lf) .lf) (.nd undef .lf .lf))))
def i21 : ST := (.nd undef (.nd undef (.nd undef (.nd undef (.nd undef .lf .lf) .lf) (.nd undef (.nd undef .lf .lf) .lf)) (.nd undef (.nd undef (.nd undef .lf .lf) .lf) (.nd undef .lf .lf))) (.nd undef (.nd undef (.nd undef (.nd undef .lf .lf) .lf) (.nd undef (.nd undef .lf .lf) .lf)) (.nd undef (.nd undef (.nd undef .lf .lf) .lf) (.nd undef .lf .lf))))
def i25 : ST := (.nd undef (.nd undef (.nd undef (.nd undef (.nd undef .lf .lf) (.nd undef .lf .lf)) (.nd undef (.nd undef .lf .lf) .lf)) (.nd undef (.nd undef (.nd undef .lf .lf) .lf) (.nd undef (.nd undef .lf .lf) .lf))) (.nd undef (.nd undef (.nd undef (.nd undef .lf .lf) (.nd undef .lf .lf)) (.nd undef (.nd undef .lf .lf) .lf)) (.nd undef (.nd undef (.nd undef .lf .lf) .lf) (.nd undef (.nd undef .lf .lf) .lf))))
def i26 : ST := (.nd undef (.nd undef (.nd undef (.nd undef (.nd undef .lf .lf) (.nd undef .lf .lf)) (.nd undef (.nd undef .lf .lf) .lf)) (.nd undef (.nd undef (.nd undef .lf .lf) (.nd undef .lf .lf)) (.nd undef (.nd undef .lf .lf) .lf))) (.nd undef (.nd undef (.nd undef (.nd undef .lf .lf) (.nd undef .lf .lf)) (.nd undef (.nd undef .lf .lf) .lf)) (.nd undef (.nd undef (.nd undef .lf .lf) .lf) (.nd undef (.nd undef .lf .lf) .lf))))
def i28 : ST := (.nd undef (.nd undef (.nd undef (.nd undef (.nd undef .lf .lf) (.nd undef .lf .lf)) (.nd undef (.nd undef .lf .lf) (.nd undef .lf .lf))) (.nd undef (.nd undef (.nd undef .lf .lf) (.nd undef .lf .lf)) (.nd undef (.nd undef .lf .lf) .lf))) (.nd undef (.nd undef (.nd undef (.nd undef .lf .lf) (.nd undef .lf .lf)) (.nd undef (.nd undef .lf .lf) .lf)) (.nd undef (.nd undef (.nd undef .lf .lf) (.nd undef .lf .lf)) (.nd undef (.nd undef .lf .lf) .lf))))
def i29 : ST := (.nd undef (.nd undef (.nd undef (.nd undef (.nd undef .lf .lf) (.nd undef .lf .lf)) (.nd undef (.nd undef .lf .lf) (.nd undef .lf .lf))) (.nd undef (.nd undef (.nd undef .lf .lf) (.nd undef .lf .lf)) (.nd undef (.nd undef .lf .lf) .lf))) (.nd undef (.nd undef (.nd undef (.nd undef .lf .lf) (.nd undef .lf .lf)) (.nd undef (.nd undef .lf .lf) (.nd undef .lf .lf))) (.nd undef (.nd undef (.nd undef .lf .lf) (.nd undef .lf .lf)) (.nd undef (.nd undef .lf .lf) .lf))))
def i34 : ST := (.nd undef (.nd undef (.nd undef (.nd undef (.nd undef (.nd undef .lf .lf) .lf) (.nd undef .lf .lf)) (.nd undef (.nd undef .lf .lf) (.nd undef .lf .lf))) (.nd undef (.nd undef (.nd undef (.nd undef .lf .lf) .lf) (.nd undef .lf .lf)) (.nd undef (.nd undef .lf .lf) (.nd undef .lf .lf)))) (.nd undef (.nd undef (.nd undef (.nd undef (.nd undef .lf .lf) .lf) (.nd undef .lf .lf)) (.nd undef (.nd undef .lf .lf) (.nd undef .lf .lf))) (.nd undef (.nd undef (.nd undef .lf .lf) (.nd undef .lf .lf)) (.nd undef (.nd undef .lf .lf) (.nd undef .lf .lf)))))
def i36 : ST := (.nd undef (.nd undef (.nd undef (.nd undef (.nd undef (.nd undef .lf .lf) .lf) (.nd undef .lf .lf)) (.nd undef (.nd undef (.nd undef .lf .lf) .lf) (.nd undef .lf .lf))) (.nd undef (.nd undef (.nd undef (.nd undef .lf .lf) .lf) (.nd undef .lf .lf)) (.nd undef (.nd undef .lf .lf) (.nd undef .lf .lf)))) (.nd undef (.nd undef (.nd undef (.nd undef (.nd undef .lf .lf) .lf) (.nd undef .lf .lf)) (.nd undef (.nd undef .lf .lf) (.nd undef .lf .lf))) (.nd undef (.nd undef (.nd undef (.nd undef .lf .lf) .lf) (.nd undef .lf .lf)) (.nd undef (.nd undef .lf .lf) (.nd undef .lf .lf)))))
def i38 : ST := (.nd undef (.nd undef (.nd undef (.nd undef (.nd undef (.nd undef .lf .lf) .lf) (.nd undef .lf .lf)) (.nd undef (.nd undef (.nd undef .lf .lf) .lf) (.nd undef .lf .lf))) (.nd undef (.nd undef (.nd undef (.nd undef .lf .lf) .lf) (.nd undef .lf .lf)) (.nd undef (.nd undef (.nd undef .lf .lf) .lf) (.nd undef .lf .lf)))) (.nd undef (.nd undef (.nd undef (.nd undef (.nd undef .lf .lf) .lf) (.nd undef .lf .lf)) (.nd undef (.nd undef (.nd undef .lf .lf) .lf) (.nd undef .lf .lf))) (.nd undef (.nd undef (.nd undef (.nd undef .lf .lf) .lf) (.nd undef .lf .lf)) (.nd undef (.nd undef .lf .lf) (.nd undef .lf .lf)))))
def i39 : ST := (.nd undef (.nd undef (.nd undef (.nd undef (.nd undef (.nd undef .lf .lf) .lf) (.nd undef .lf .lf)) (.nd undef (.nd undef (.nd undef .lf .lf) .lf) (.nd undef .lf .lf))) (.nd undef (.nd undef (.nd undef (.nd undef .lf .lf) .lf) (.nd undef .lf .lf)) (.nd undef (.nd undef (.nd undef .lf .lf) .lf) (.nd undef .lf .lf)))) (.nd undef (.nd undef (.nd undef (.nd undef (.nd undef .lf .lf) .lf) (.nd undef .lf .lf)) (.nd undef (.nd undef (.nd undef .lf .lf) .lf) (.nd undef .lf .lf))) (.nd undef (.nd undef (.nd undef (.nd undef .lf .lf) .lf) (.nd undef .lf .lf)) (.nd undef (.nd undef (.nd undef .lf .lf) .lf) (.nd undef .lf .lf)))))
def i40 : ST := (.nd undef (.nd undef (.nd undef (.nd undef (.nd undef (.nd undef .lf .lf) .lf) (.nd undef (.nd undef .lf .lf) .lf)) (.nd undef (.nd undef (.nd undef .lf .lf) .lf) (.nd undef .lf .lf))) (.nd undef (.nd undef (.nd undef (.nd undef .lf .lf) .lf) (.nd undef .lf .lf)) (.nd undef (.nd undef (.nd undef .lf .lf) .lf) (.nd undef .lf .lf)))) (.nd undef (.nd undef (.nd undef (.nd undef (.nd undef .lf .lf) .lf) (.nd undef .lf .lf)) (.nd undef (.nd undef (.nd undef .lf .lf) .lf) (.nd undef .lf .lf))) (.nd undef (.nd undef (.nd undef (.nd undef .lf .lf) .lf) (.nd undef .lf .lf)) (.nd undef (.nd undef (.nd undef .lf .lf) .lf) (.nd undef .lf .lf)))))
def i41 : ST := (.nd undef (.nd undef (.nd undef (.nd undef (.nd undef (.nd undef .lf .lf) .lf) (.nd undef (.nd undef .lf .lf) .lf)) (.nd undef (.nd undef (.nd undef .lf .lf) .lf) (.nd undef .lf .lf))) (.nd undef (.nd undef (.nd undef (.nd undef .lf .lf) .lf) (.nd undef .lf .lf)) (.nd undef (.nd undef (.nd undef .lf .lf) .lf) (.nd undef .lf .lf)))) (.nd undef (.nd undef (.nd undef (.nd undef (.nd undef .lf .lf) .lf) (.nd undef (.nd undef .lf .lf) .lf)) (.nd undef (.nd undef (.nd undef .lf .lf) .lf) (.nd undef .lf .lf))) (.nd undef (.nd undef (.nd undef (.nd undef .lf .lf) .lf) (.nd undef .lf .lf)) (.nd undef (.nd undef (.nd undef .lf .lf) .lf) (.nd undef .lf .lf)))))
def i44 : ST := (.nd undef (.nd undef (.nd undef (.nd undef (.nd undef (.nd undef .lf .lf) .lf) (.nd undef (.nd undef .lf .lf) .lf)) (.nd undef (.nd undef (.nd undef .lf .lf) .lf) (.nd undef (.nd undef .lf .lf) .lf))) (.nd undef (.nd undef (.nd undef (.nd undef .lf .lf) .lf) (.nd undef (.nd undef .lf .lf) .lf)) (.nd undef (.nd undef (.nd undef .lf .lf) .lf) (.nd undef .lf .lf)))) (.nd undef (.nd undef (.nd undef (.nd undef (.nd undef .lf .lf) .lf) (.nd undef (.nd undef .lf .lf) .lf)) (.nd undef (.nd undef (.nd undef .lf .lf) .lf) (.nd undef .lf .lf))) (.nd undef (.nd undef (.nd undef (.nd undef .lf .lf) .lf) (.nd undef (.nd undef .lf .lf) .lf)) (.nd undef (.nd undef (.nd undef .lf .lf) .lf) (.nd undef .lf .lf)))))
def i45 : ST := (.nd undef (.nd undef (.nd undef (.nd undef (.nd undef (.nd undef .lf .lf) .lf) (.nd undef (.nd undef .lf .lf) .lf)) (.nd undef (.nd undef (.nd undef .lf .lf) .lf) (.nd undef (.nd undef .lf .lf) .lf))) (.nd undef (.nd undef (.nd undef (.nd undef .lf .lf) .lf) (.nd undef (.nd undef .lf .lf) .lf)) (.nd undef (.nd undef (.nd undef .lf .lf) .lf) (.nd undef .lf .lf)))) (.nd undef (.nd undef (.nd undef (.nd undef (.nd undef .lf .lf) .lf) (.nd undef (.nd undef .lf .lf) .lf)) (.nd undef (.nd undef (.nd undef .lf .lf) .lf) (.nd undef (.nd undef .lf .lf) .lf))) (.nd undef (.nd undef (.nd undef (.nd undef .lf .lf) .lf) (.nd undef (.nd undef .lf .lf) .lf)) (.nd undef (.nd undef (.nd undef .lf .lf) .lf) (.nd undef .lf .lf)))))
def i61 : ST := (.nd undef (.nd undef (.nd undef (.nd undef (.nd undef (.nd undef .lf .lf) (.nd undef .lf .lf)) (.nd undef (.nd undef .lf .lf) (.nd undef .lf .lf))) (.nd undef (.nd undef (.nd undef .lf .lf) (.nd undef .lf .lf)) (.nd undef (.nd undef .lf .lf) (.nd undef .lf .lf)))) (.nd undef (.nd undef (.nd undef (.nd undef .lf .lf) (.nd undef .lf .lf)) (.nd undef (.nd undef .lf .lf) (.nd undef .lf .lf))) (.nd undef (.nd undef (.nd undef .lf .lf) (.nd undef .lf .lf)) (.nd undef (.nd undef .lf .lf) .lf)))) (.nd undef (.nd undef (.nd undef (.nd undef (.nd undef .lf .lf) (.nd undef .lf .lf)) (.nd undef (.nd undef .lf .lf) (.nd undef .lf .lf))) (.nd undef (.nd undef (.nd undef .lf .lf) (.nd undef .lf .lf)) (.nd undef (.nd undef .lf .lf) (.nd undef .lf .lf)))) (.nd undef (.nd undef (.nd undef (.nd undef .lf .lf) (.nd undef .lf .lf)) (.nd undef (.nd undef .lf .lf) (.nd undef .lf .lf))) (.nd undef (.nd undef (.nd undef .lf .lf) (.nd undef .lf .lf)) (.nd undef (.nd undef .lf .lf) .lf)))))
def i63 : ST := (.nd undef (.nd undef (.nd undef (.nd undef (.nd undef (.nd undef .lf .lf) (.nd undef .lf .lf)) (.nd undef (.nd undef .lf .lf) (.nd undef .lf .lf))) (.nd undef (.nd undef (.nd undef .lf .lf) (.nd undef .lf .lf)) (.nd undef (.nd undef .lf .lf) (.nd undef .lf .lf)))) (.nd undef (.nd undef (.nd undef (.nd undef .lf .lf) (.nd undef .lf .lf)) (.nd undef (.nd undef .lf .lf) (.nd undef .lf .lf))) (.nd undef (.nd undef (.nd undef .lf .lf) (.nd undef .lf .lf)) (.nd undef (.nd undef .lf .lf) (.nd undef .lf .lf))))) (.nd undef (.nd undef (.nd undef (.nd undef (.nd undef .lf .lf) (.nd undef .lf .lf)) (.nd undef (.nd undef .lf .lf) (.nd undef .lf .lf))) (.nd undef (.nd undef (.nd undef .lf .lf) (.nd undef .lf .lf)) (.nd undef (.nd undef .lf .lf) (.nd undef .lf .lf)))) (.nd undef (.nd undef (.nd undef (.nd undef .lf .lf) (.nd undef .lf .lf)) (.nd undef (.nd undef .lf .lf) (.nd undef .lf .lf))) (.nd undef (.nd undef (.nd undef .lf .lf) (.nd undef .lf .lf)) (.nd undef (.nd undef .lf .lf) (.nd undef .lf .lf))))))
def i66 : ST := (.nd undef (.nd undef (.nd undef (.nd undef (.nd undef (.nd undef (.nd undef .lf .lf) .lf) (.nd undef .lf .lf)) (.nd undef (.nd undef .lf .lf) (.nd undef .lf .lf))) (.nd undef (.nd undef (.nd undef .lf .lf) (.nd undef .lf .lf)) (.nd undef (.nd undef .lf .lf) (.nd undef .lf .lf)))) (.nd undef (.nd undef (.nd undef (.nd undef (.nd undef .lf .lf) .lf) (.nd undef .lf .lf)) (.nd undef (.nd undef .lf .lf) (.nd undef .lf .lf))) (.nd undef (.nd undef (.nd undef .lf .lf) (.nd undef .lf .lf)) (.nd undef (.nd undef .lf .lf) (.nd undef .lf .lf))))) (.nd undef (.nd undef (.nd undef (.nd undef (.nd undef (.nd undef .lf .lf) .lf) (.nd undef .lf .lf)) (.nd undef (.nd undef .lf .lf) (.nd undef .lf .lf))) (.nd undef (.nd undef (.nd undef .lf .lf) (.nd undef .lf .lf)) (.nd undef (.nd undef .lf .lf) (.nd undef .lf .lf)))) (.nd undef (.nd undef (.nd undef (.nd undef .lf .lf) (.nd undef .lf .lf)) (.nd undef (.nd undef .lf .lf) (.nd undef .lf .lf))) (.nd undef (.nd undef (.nd undef .lf .lf) (.nd undef .lf .lf)) (.nd undef (.nd undef .lf .lf) (.nd undef .lf .lf))))))
def i132 : ST := (.nd undef (.nd undef (.nd undef (.nd undef (.nd undef (.nd undef (.nd undef (.nd undef .lf .lf) .lf) (.nd undef .lf .lf)) (.nd undef (.nd undef .lf .lf) (.nd undef .lf .lf))) (.nd undef (.nd undef (.nd undef .lf .lf) (.nd undef .lf .lf)) (.nd undef (.nd undef .lf .lf) (.nd undef .lf .lf)))) (.nd undef (.nd undef (.nd undef (.nd undef (.nd undef .lf .lf) .lf) (.nd undef .lf .lf)) (.nd undef (.nd undef .lf .lf) (.nd undef .lf .lf))) (.nd undef (.nd undef (.nd undef .lf .lf) (.nd undef .lf .lf)) (.nd undef (.nd undef .lf .lf) (.nd undef .lf .lf))))) (.nd undef (.nd undef (.nd undef (.nd undef (.nd undef (.nd undef .lf .lf) .lf) (.nd undef .lf .lf)) (.nd undef (.nd undef .lf .lf) (.nd undef .lf .lf))) (.nd undef (.nd undef (.nd undef .lf .lf) (.nd undef .lf .lf)) (.nd undef (.nd undef .lf .lf) (.nd undef .lf .lf)))) (.nd undef (.nd undef (.nd undef (.nd undef .lf .lf) (.nd undef .lf .lf)) (.nd undef (.nd undef .lf .lf) (.nd undef .lf .lf))) (.nd undef (.nd undef (.nd undef .lf .lf) (.nd undef .lf .lf)) (.nd undef (.nd undef .lf .lf) (.nd undef .lf .lf)))))) (.nd undef (.nd undef (.nd undef (.nd undef (.nd undef (.nd undef (.nd undef .lf .lf) .lf) (.nd undef .lf .lf)) (.nd undef (.nd undef .lf .lf) (.nd undef .lf .lf))) (.nd undef (.nd undef (.nd undef .lf .lf) (.nd undef .lf .lf)) (.nd undef (.nd undef .lf .lf) (.nd undef .lf .lf)))) (.nd undef (.nd undef (.nd undef (.nd undef .lf .lf) (.nd undef .lf .lf)) (.nd undef (.nd undef .lf .lf) (.nd undef .lf .lf))) (.nd undef (.nd undef (.nd undef .lf .lf) (.nd undef .lf .lf)) (.nd undef (.nd undef .lf .lf) (.nd undef .lf .lf))))) (.nd undef (.nd undef (.nd undef (.nd undef (.nd undef (.nd undef .lf .lf) .lf) (.nd undef .lf .lf)) (.nd undef (.nd undef .lf .lf) (.nd undef .lf .lf))) (.nd undef (.nd undef (.nd undef .lf .lf) (.nd undef .lf .lf)) (.nd undef (.nd undef .lf .lf) (.nd undef .lf .lf)))) (.nd undef (.nd undef (.nd undef (.nd undef .lf .lf) (.nd undef .lf .lf)) (.nd undef (.nd undef .lf .lf) (.nd undef .lf .lf))) (.nd undef (.nd undef (.nd undef .lf .lf) (.nd undef .lf .lf)) (.nd undef (.nd undef .lf .lf) (.nd undef .lf .lf)))))))
def i200 : ST := (.nd undef (.nd undef (.nd undef (.nd undef (.nd undef (.nd undef (.nd undef (.nd undef .lf .lf) (.nd undef .lf .lf)) (.nd undef (.nd undef .lf .lf) .lf)) (.nd undef (.nd undef (.nd undef .lf .lf) .lf) (.nd undef (.nd undef .lf .lf) .lf))) (.nd undef (.nd undef (.nd undef (.nd undef .lf .lf) (.nd undef .lf .lf)) (.nd undef (.nd undef .lf .lf) .lf)) (.nd undef (.nd undef (.nd undef .lf .lf) .lf) (.nd undef (.nd undef .lf .lf) .lf)))) (.nd undef (.nd undef (.nd undef (.nd undef (.nd undef .lf .lf) (.nd undef .lf .lf)) (.nd undef (.nd undef .lf .lf) .lf)) (.nd undef (.nd undef (.nd undef .lf .lf) .lf) (.nd undef (.nd undef .lf .lf) .lf))) (.nd undef (.nd undef (.nd undef (.nd undef .lf .lf) .lf) (.nd undef (.nd undef .lf .lf) .lf)) (.nd undef (.nd undef (.nd undef .lf .lf) .lf) (.nd undef (.nd undef .lf .lf) .lf))))) (.nd undef (.nd undef (.nd undef (.nd undef (.nd undef (.nd undef .lf .lf) (.nd undef .lf .lf)) (.nd undef (.nd undef .lf .lf) .lf)) (.nd undef (.nd undef (.nd undef .lf .lf) .lf) (.nd undef (.nd undef .lf .lf) .lf))) (.nd undef (.nd undef (.nd undef (.nd undef .lf .lf) .lf) (.nd undef (.nd undef .lf .lf) .lf)) (.nd undef (.nd undef (.nd undef .lf .lf) .lf) (.nd undef (.nd undef .lf .lf) .lf)))) (.nd undef (.nd undef (.nd undef (.nd undef (.nd undef .lf .lf) (.nd undef .lf .lf)) (.nd undef (.nd undef .lf .lf) .lf)) (.nd undef (.nd undef (.nd undef .lf .lf) .lf) (.nd undef (.nd undef .lf .lf) .lf))) (.nd undef (.nd undef (.nd undef (.nd undef .lf .lf) .lf) (.nd undef (.nd undef .lf .lf) .lf)) (.nd undef (.nd undef (.nd undef .lf .lf) .lf) (.nd undef (.nd undef .lf .lf) .lf)))))) (.nd undef (.nd undef (.nd undef (.nd undef (.nd undef (.nd undef (.nd undef .lf .lf) (.nd undef .lf .lf)) (.nd undef (.nd undef .lf .lf) .lf)) (.nd undef (.nd undef (.nd undef .lf .lf) .lf) (.nd undef (.nd undef .lf .lf) .lf))) (.nd undef (.nd undef (.nd undef (.nd undef .lf .lf) .lf) (.nd undef (.nd undef .lf .lf) .lf)) (.nd undef (.nd undef (.nd undef .lf .lf) .lf) (.nd undef (.nd undef .lf .lf) .lf)))) (.nd undef (.nd undef (.nd undef (.nd undef (.nd undef .lf .lf) (.nd undef .lf .lf)) (.nd undef (.nd undef .lf .lf) .lf)) (.nd undef (.nd undef (.nd undef .lf .lf) .lf) (.nd undef (.nd undef .lf .lf) .lf))) (.nd undef (.nd undef (.nd undef (.nd undef .lf .lf) .lf) (.nd undef (.nd undef .lf .lf) .lf)) (.nd undef (.nd undef (.nd undef .lf .lf) .lf) (.nd undef (.nd undef .lf .lf) .lf))))) (.nd undef (.nd undef (.nd undef (.nd undef (.nd undef (.nd undef .lf .lf) (.nd undef .lf .lf)) (.nd undef (.nd undef .lf .lf) .lf)) (.nd undef (.nd undef (.nd undef .lf .lf) .lf) (.nd undef (.nd undef .lf .lf) .lf))) (.nd undef (.nd undef (.nd undef (.nd undef .lf .lf) .lf) (.nd undef (.nd undef .lf .lf) .lf)) (.nd undef (.nd undef (.nd undef .lf .lf) .lf) (.nd undef (.nd undef .lf .lf) .lf)))) (.nd undef (.nd undef (.nd undef (.nd undef (.nd undef .lf .lf) (.nd undef .lf .lf)) (.nd undef (.nd undef .lf .lf) .lf)) (.nd undef (.nd undef (.nd undef .lf .lf) .lf) (.nd undef (.nd undef .lf .lf) .lf))) (.nd undef (.nd undef (.nd undef (.nd undef .lf .lf) .lf) (.nd undef (.nd undef .lf .lf) .lf)) (.nd undef (.nd undef (.nd undef .lf .lf) .lf) (.nd undef (.nd undef .lf .lf) .lf)))))))
def a7 : AFunc := { params := [p0, p1, p2], init := i200, results := [.tmp p6], body := (.seq (.reg [⟨(some p6), none, .mov (.c (.bool false))⟩] []) (.kill [p6] (.seq (.reg [⟨(some p24), none, .mov (.t p0)⟩, ⟨(some p25), none, .cvt .u64 (.t p24)⟩, ⟨(some p26), none, .bin .rem (.t p25) (.c (.int .u64 12))⟩, ⟨(some p27), none, .cvt .i64 (.t p26)⟩, ⟨(some p28), none, .bin .add (.c (.int .i64 1)) (.t p27)⟩, ⟨(some p29), none, .mov (.t p1)⟩, ⟨(some p30), none, .cvt .u64 (.t p29)⟩, ⟨(some p31), none, .bin .rem (.t p30) (.c (.int .u64 12))⟩, ⟨(some p32), none, .cvt .i64 (.t p31)⟩, ⟨(some p33), none, .bin .add (.c (.int .i64 1)) (.t p32)⟩, ⟨(some p0), none, .mov (.t p28)⟩, ⟨(some p1), none, .mov (.t p33)⟩] []) (.kill [p24, p25, p26, p27, p28, p29, p30, p31, p32, p33] (.seq (.reg [⟨(some p34), none, .mov (.t p2)⟩, ⟨(some p35), none, .cvt .u64 (.t p34)⟩, ⟨(some p36), none, .mov (.t p0)⟩, ⟨(some p37), none, .mov (.t p1)⟩, ⟨(some p38), none, .max (.t p36) [(.t p37)]⟩, ⟨(some p39), none, .bin .add (.t p38) (.c (.int .i64 1))⟩, ⟨(some p40), none, .cvt .u64 (.t p39)⟩, ⟨(some p41), none, .bin .rem (.t p35) (.t p40)⟩, ⟨(some p42), none, .cvt .i64 (.t p41)⟩, ⟨(some p2), none, .mov (.t p42)⟩] []) (.kill [p34, p35, p36, p37, p38, p39, p40, p41, p42] (.seq (.reg [⟨(some p44), none, .mov (.t p0)⟩, ⟨(some p45), none, .mov (.t p1)⟩, ⟨(some p46), none, .mov (.t p2)⟩, ⟨(some p47), none, .call (.c (.func (.func 25) #[] #[])) [(.t p44), (.t p45), (.t p46)]⟩, ⟨(some p43), none, .mov (.t p47)⟩, ⟨(some p48), none, .ext 0 (.t p43)⟩, ⟨(some p49), none, .ext 1 (.t p43)⟩, ⟨(some p50), none, .ext 2 (.t p43)⟩, ⟨(some p7), none, .mov (.t p48)⟩, ⟨(some p8), none, .mov (.t p49)⟩, ⟨(some p9), none, .mov (.t p50)⟩] []) (.kill [p43, p44, p45, p46, p47, p48, p49, p50] (.seq (.reg [⟨(some p52), none, .mov (.t p0)⟩, ⟨(some p53), none, .mov (.t p1)⟩, ⟨(some p54), none, .bslice 2 1 [(.int .i64 0)] [(0, 1, (.t p52)), (1, 1, (.t p53))]⟩, ⟨(some p55), none, .mov (.t p2)⟩, ⟨(some p56), none, .call (.c (.func (.func 31) #[] #[])) [(.t p54), (.t p55)]⟩, ⟨(some p51), none, .mov (.t p56)⟩, ⟨(some p57), none, .ext 0 (.t p51)⟩, ⟨(some p58), none, .ext 1 (.t p51)⟩, ⟨(some p59), none, .ext 2 (.t p51)⟩, ⟨(some p10), none, .mov (.t p57)⟩, ⟨(some p11), none, .mov (.t p58)⟩, ⟨(some p12), none, .mov (.t p59)⟩] []) (.kill [p51, p52, p53, p54, p55, p56, p57, p58, p59] (.seq (.reg [⟨(some p61), none, .mov (.t p1)⟩, ⟨(some p62), none, .mov (.t p0)⟩, ⟨(some p63), none, .mov (.t p2)⟩, ⟨(some p64), none, .call (.c (.func (.func 25) #[] #[])) [(.t p61), (.t p62), (.t p63)]⟩, ⟨(some p60), none, .mov (.t p64)⟩, ⟨(some p65), none, .ext 0 (.t p60)⟩, ⟨(some p66), none, .ext 1 (.t p60)⟩, ⟨(some p67), none, .ext 2 (.t p60)⟩, ⟨(some p13), none, .mov (.t p65)⟩, ⟨(some p14), none, .mov (.t p66)⟩, ⟨(some p15), none, .mov (.t p67)⟩] []) (.kill [p60, p61, p62, p63, p64, p65, p66, p67] (.seq (.reg [⟨(some p69), none, .mov (.t p0)⟩, ⟨(some p70), none, .mov (.t p1)⟩, ⟨(some p71), none, .mov (.t p2)⟩, ⟨(some p72), none, .call (.c (.func (.func 26) #[] #[])) [(.t p69), (.t p70), (.t p71), (.c (.bool true))]⟩, ⟨(some p68), none, .mov (.t p72)⟩, ⟨(some p73), none, .ext 0 (.t p68)⟩, ⟨(some p74), none, .ext 1 (.t p68)⟩, ⟨(some p75), none, .ext 2 (.t p68)⟩, ⟨(some p16), none, .mov (.t p73)⟩, ⟨(some p17), none, .mov (.t p74)⟩, ⟨(some p18), none, .mov (.t p75)⟩] []) (.kill [p68, p69, p70, p71, p72, p73, p74, p75] (.seq (.reg [⟨(some p77), none, .mov (.t p1)⟩, ⟨(some p78), none, .mov (.t p0)⟩, ⟨(some p79), none, .mov (.t p2)⟩, ⟨(some p80), none, .call (.c (.func (.func 26) #[] #[])) [(.t p77), (.t p78), (.t p79), (.c (.bool false))]⟩, ⟨(some p76), none, .mov (.t p80)⟩, ⟨(some p81), none, .ext 0 (.t p76)⟩, ⟨(some p82), none, .ext 1 (.t p76)⟩, ⟨(some p83), none, .ext 2 (.t p76)⟩, ⟨(some p19), none, .mov (.t p81)⟩, ⟨(some p20), none, .mov (.t p82)⟩, ⟨(some p21), none, .mov (.t p83)⟩] []) (.kill [p0, p1, p2, p76, p77, p78, p79, p80, p81, p82, p83] (.seq (.seq (.reg [⟨(some p84), none, .mov (.t p9)⟩, ⟨(some p85), none, .bin .neq (.t p84) (.c (.int .i64 0))⟩, ⟨(some p86), none, .mov (.t p85)⟩, ⟨(some p87), (some (p86, false)), .mov (.t p12)⟩, ⟨(some p88), (some (p86, false)), .bin .neq (.t p87) (.c (.int .i64 0))⟩, ⟨(some p89), none, .pick (.t p86) (.c (.bool true)) (.t p88)⟩, ⟨(some p90), none, .mov (.t p89)⟩, ⟨(some p91), (some (p90, false)), .mov (.t p15)⟩, ⟨(some p92), (some (p90, false)), .bin .neq (.t p91) (.c (.int .i64 0))⟩, ⟨(some p93), none, .pick (.t p90) (.c (.bool true)) (.t p92)⟩, ⟨(some p94), none, .mov (.t p93)⟩, ⟨(some p95), (some (p94, false)), .mov (.t p18)⟩, ⟨(some p96), (some (p94, false)), .bin .neq (.t p95) (.c (.int .i64 0))⟩, ⟨(some p97), none, .pick (.t p94) (.c (.bool true)) (.t p96)⟩, ⟨(some p98), none, .mov (.t p97)⟩, ⟨(some p99), (some (p98, false)), .mov (.t p21)⟩, ⟨(some p100), (some (p98, false)), .bin .neq (.t p99) (.c (.int .i64 0))⟩, ⟨(some p101), none, .pick (.t p98) (.c (.bool true)) (.t p100)⟩, ⟨(some p102), none, .mov (.t p101)⟩, ⟨(some p103), (some (p102, false)), .mov (.t p8)⟩, ⟨(some p104), (some (p102, false)), .mov (.t p11)⟩, ⟨(some p105), (some (p102, false)), .eqs (.bool) true (.t p103) (.t p104)⟩, ⟨(some p106), none, .pick (.t p102) (.c (.bool true)) (.t p105)⟩, ⟨(some p107), none, .mov (.t p106)⟩, ⟨(some p108), (some (p107, false)), .mov (.t p14)⟩, ⟨(some p109), (some (p107, false)), .mov (.t p8)⟩, ⟨(some p110), (some (p107, false)), .eqs (.bool) true (.t p108) (.t p109)⟩, ⟨(some p111), none, .pick (.t p107) (.c (.bool true)) (.t p110)⟩, ⟨(some p112), none, .mov (.t p111)⟩, ⟨(some p113), (some (p112, false)), .mov (.t p17)⟩, ⟨(some p114), (some (p112, false)), .mov (.t p8)⟩, ⟨(some p115), (some (p112, false)), .eqs (.bool) true (.t p113) (.t p114)⟩, ⟨(some p116), none, .pick (.t p112) (.c (.bool true)) (.t p115)⟩, ⟨(some p117), none, .mov (.t p116)⟩, ⟨(some p118), (some (p117, false)), .mov (.t p20)⟩, ⟨(some p119), (some (p117, false)), .mov (.t p8)⟩, ⟨(some p120), (some (p117, false)), .eqs (.bool) true (.t p118) (.t p119)⟩, ⟨(some p121), none, .pick (.t p117) (.c (.bool true)) (.t p120)⟩, ⟨(some p122), none, .mov (.t p121)⟩, ⟨(some p123), (some (p122, false)), .mov (.t p7)⟩, ⟨(some p124), (some (p122, false)), .mov (.t p10)⟩, ⟨(some p125), (some (p122, false)), .bin .neq (.t p123) (.t p124)⟩, ⟨(some p126), none, .pick (.t p122) (.c (.bool true)) (.t p125)⟩, ⟨(some p127), none, .mov (.t p126)⟩, ⟨(some p128), (some (p127, false)), .mov (.t p13)⟩, ⟨(some p129), (some (p127, false)), .mov (.t p7)⟩, ⟨(some p130), (some (p127, false)), .bin .neq (.t p128) (.t p129)⟩, ⟨(some p131), none, .pick (.t p127) (.c (.bool true)) (.t p130)⟩, ⟨(some p132), none, .mov (.t p131)⟩, ⟨(some p133), (some (p132, false)), .mov (.t p16)⟩, ⟨(some p134), (some (p132, false)), .len 1 (.t p133)⟩, ⟨(some p135), (some (p132, false)), .mov (.t p19)⟩, ⟨(some p136), (some (p132, false)), .len 1 (.t p135)⟩, ⟨(some p137), (some (p132, false)), .bin .neq (.t p134) (.t p136)⟩, ⟨(some p138), none, .pick (.t p132) (.c (.bool true)) (.t p137)⟩, ⟨(some p139), none, .mov (.t p138)⟩, ⟨(some p140), (some (p139, false)), .mov (.t p8)⟩, ⟨(some p141), (some (p139, false)), .mov (.t p140)⟩, ⟨(some p142), (some (p141, true)), .mov (.t p16)⟩, ⟨(some p143), (some (p141, true)), .len 1 (.t p142)⟩, ⟨(some p144), (some (p141, true)), .mov (.t p7)⟩, ⟨(some p145), (some (p141, true)), .bin .lss (.t p143) (.t p144)⟩, ⟨(some p146), (some (p139, false)), .pick (.t p141) (.t p145) (.c (.bool false))⟩, ⟨(some p147), none, .pick (.t p139) (.c (.bool true)) (.t p146)⟩] []) (.kill [p7, p8, p9, p10, p11, p12, p13, p14, p15, p17, p18, p20, p21, p84, p85, p86, p87, p88, p89, p90, p91, p92, p93, p94, p95, p96, p97, p98, p99, p100, p101, p102, p103, p104, p105, p106, p107, p108, p109, p110, p111, p112, p113, p114, p115, p116, p117, p118, p119, p120, p121, p122, p123, p124, p125, p126, p127, p128, p129, p130, p131, p132, p133, p134, p135, p136, p137, p138, p139, p140, p141, p142, p143, p144, p145, p146] (.cond (.t p147) (.kill [p147] (.seq (.reg [⟨(some p6), none, .mov (.c (.bool false))⟩] []) .ret)) .skip))) (.kill [p147] (.seq (.seq (.reg [⟨(some p22), none, .mov (.c (.int .i64 0))⟩] []) (.block 0 (.loop (.seq (.seq (.reg [⟨(some p148), none, .mov (.t p22)⟩, ⟨(some p149), none, .mov (.t p16)⟩, ⟨(some p150), none, .len 1 (.t p149)⟩, ⟨(some p151), none, .bin .lss (.t p148) (.t p150)⟩] []) (.kill [p148, p149, p150] (.cond (.t p151) .skip (.exit 0)))) (.kill [p151] (.seq (.block 1 (.seq (.reg [⟨(some p23), none, .mov (.c (.int .i64 0))⟩] []) (.block 2 (.loop (.seq (.seq (.reg [⟨(some p154), none, .mov (.t p23)⟩, ⟨(some p155), none, .bin .lss (.t p154) (.c (.int .i64 2))⟩] []) (.kill [p154] (.cond (.t p155) .skip (.exit 2)))) (.kill [p155] (.seq (.block 3 (.seq (.reg [⟨(some p158), none, .mov (.t p16)⟩, ⟨(some p159), none, .mov (.t p22)⟩, ⟨(some p160), none, .mov (.t p23)⟩, ⟨(some p161), none, .ias 2 (.t p158) (.t p159)⟩, ⟨(some p162), none, .iad 2 1 (.t p161) (.t p160)⟩, ⟨(some p163), none, .ld none (.t p162)⟩, ⟨(some p164), none, .bin .eql (.t p163) (.c (.int .i64 (-1)))⟩, ⟨(some p165), none, .mov (.t p164)⟩, ⟨(some p166), (some (p165, true)), .mov (.t p19)⟩, ⟨(some p167), (some (p165, true)), .mov (.t p22)⟩, ⟨(some p168), (some (p165, true)), .mov (.t p23)⟩, ⟨(some p169), (some (p165, true)), .ias 2 (.t p166) (.t p167)⟩, ⟨(some p170), (some (p165, true)), .iad 2 1 (.t p169) (.t p168)⟩, ⟨(some p171), (some (p165, true)), .ld none (.t p170)⟩, ⟨(some p172), (some (p165, true)), .bin .neq (.t p171) (.c (.int .i64 (-1)))⟩, ⟨(some p173), none, .pick (.t p165) (.t p172) (.c (.bool false))⟩, ⟨(some p174), none, .mov (.t p173)⟩, ⟨(some p175), (some (p174, false)), .mov (.t p16)⟩, ⟨(some p176), (some (p174, false)), .mov (.t p22)⟩, ⟨(some p177), (some (p174, false)), .mov (.t p23)⟩, ⟨(some p178), (some (p174, false)), .ias 2 (.t p175) (.t p176)⟩, ⟨(some p179), (some (p174, false)), .iad 2 1 (.t p178) (.t p177)⟩, ⟨(some p180), (some (p174, false)), .ld none (.t p179)⟩, ⟨(some p181), (some (p174, false)), .bin .neq (.t p180) (.c (.int .i64 (-1)))⟩, ⟨(some p182), (some (p174, false)), .mov (.t p181)⟩, ⟨(some p183), (some (p182, true)), .mov (.t p19)⟩, ⟨(some p184), (some (p182, true)), .mov (.t p22)⟩, ⟨(some p185), (some (p182, true)), .mov (.t p23)⟩, ⟨(some p186), (some (p182, true)), .ias 2 (.t p183) (.t p184)⟩, ⟨(some p187), (some (p182, true)), .iad 2 1 (.t p186) (.t p185)⟩, ⟨(some p188), (some (p182, true)), .ld none (.t p187)⟩, ⟨(some p189), (some (p182, true)), .mov (.t p16)⟩, ⟨(some p190), (some (p182, true)), .mov (.t p22)⟩, ⟨(some p191), (some (p182, true)), .mov (.t p23)⟩, ⟨(some p192), (some (p182, true)), .ias 2 (.t p189) (.t p190)⟩, ⟨(some p193), (some (p182, true)), .iad 2 1 (.t p192) (.t p191)⟩, ⟨(some p194), (some (p182, true)), .ld none (.t p193)⟩, ⟨(some p195), (some (p182, true)), .bin .sub (.c (.int .i64 1)) (.t p194)⟩, ⟨(some p196), (some (p182, true)), .bin .neq (.t p188) (.t p195)⟩, ⟨(some p197), (some (p174, false)), .pick (.t p182) (.t p196) (.c (.bool false))⟩, ⟨(some p198), none, .pick (.t p174) (.c (.bool true)) (.t p197)⟩] []) (.kill [p158, p159, p160, p161, p162, p163, p164, p165, p166, p167, p168, p169, p170, p171, p172, p173, p174, p175, p176, p177, p178, p179, p180, p181, p182, p183, p184, p185, p186, p187, p188, p189, p190, p191, p192, p193, p194, p195, p196, p197] (.cond (.t p198) (.kill [p198] (.seq (.reg [⟨(some p6), none, .mov (.c (.bool false))⟩] []) .ret)) .skip)))) (.kill [p198] (.reg [⟨(some p156), none, .mov (.t p23)⟩, ⟨(some p157), none, .bin .add (.t p156) (.c (.int .i64 1))⟩, ⟨(some p23), none, .mov (.t p157)⟩] []))))))))) (.kill [p23, p155] (.reg [⟨(some p152), none, .mov (.t p22)⟩, ⟨(some p153), none, .bin .add (.t p152) (.c (.int .i64 1))⟩, ⟨(some p22), none, .mov (.t p153)⟩] [])))))))) (.kill [p16, p19, p22, p151, p155] (.seq (.reg [⟨(some p199), none, .call (.c (.func (.func 20) #[] #[])) []⟩, ⟨(some p6), none, .mov (.t p199)⟩] []) .ret))))))))))))))))))))) }
def a18 : AFunc := { params := [p0, p1, p2], init := i38, results := [.tmp p6, .tmp p7], body := (.seq (.reg [⟨(some p6), none, .mov (.c (.slice none 0 0))⟩, ⟨(some p7), none, .mov (.c (.int .i64 0))⟩] []) (.kill [p6, p7] (.seq (.reg [⟨(some p13), none, .mov (.t p0)⟩, ⟨(some p14), none, .mov (.t p2)⟩, ⟨(some p15), none, .mov (.t p1)⟩, ⟨(some p16), none, .bslice 1 1 [(.slice none 0 0)] [(0, 1, (.t p15))]⟩, ⟨(some p17), none, .call (.c (.func (.func 46) #[] #[])) [(.t p13), (.t p14), (.t p16)]⟩, ⟨(some p12), none, .mov (.t p17)⟩, ⟨(some p18), none, .ext 0 (.t p12)⟩, ⟨(some p19), none, .ext 1 (.t p12)⟩, ⟨(some p8), none, .mov (.t p18)⟩, ⟨(some p9), none, .mov (.t p19)⟩] []) (.kill [p0, p2, p12, p13, p14, p15, p16, p17, p18, p19] (.seq (.seq (.reg [⟨(some p20), none, .mov (.t p9)⟩, ⟨(some p21), none, .bin .neq (.t p20) (.c (.int .i64 0))⟩] []) (.kill [p20] (.cond (.t p21) (.kill [p21] (.seq (.reg [⟨(some p22), none, .mov (.t p9)⟩, ⟨(some p6), none, .mov (.c (.slice none 0 0))⟩, ⟨(some p7), none, .mov (.t p22)⟩] []) .ret)) .skip))) (.kill [p21] (.seq (.reg [⟨(some p10), none, .zero [(.slice none 0 0)]⟩] []) (.seq (.seq (.reg [⟨(some p23), none, .mov (.t p8)⟩, ⟨(some p24), none, .mov (.t p1)⟩, ⟨(some p25), none, .call (.c (.func (.func 48) #[] #[])) [(.t p24)]⟩, ⟨(some p26), none, .call (.c (.func (.func 47) #[] #[])) [(.t p23), (.t p25)]⟩] []) (.kill [p1, p8, p23, p24, p25] (.block 0 (.rangeF (.t p26) [p27, p28] (.reg [⟨(some p11), none, .zero [(.int .i64 0), (.int .i64 0)]⟩, ⟨none, none, .st 2 (.t p11) (.t p27)⟩] []) (.block 1 (.reg [⟨(some p29), none, .ld none (.t p10)⟩, ⟨(some p30), none, .fad 0 (.t p11)⟩, ⟨(some p31), none, .ld none (.t p30)⟩, ⟨(some p32), none, .fad 1 (.t p11)⟩, ⟨(some p33), none, .ld none (.t p32)⟩, ⟨(some p34), none, .build [(.int .i64 0), (.int .i64 0)] [(0, 1, (.t p31)), (1, 1, (.t p33))]⟩, ⟨(some p35), none, .bslice 1 2 [(.int .i64 0), (.int .i64 0)] [(0, 2, (.t p34))]⟩, ⟨(some p36), none, .app 2 (.t p29) (.t p35)⟩, ⟨none, none, .st 1 (.t p10) (.t p36)⟩] [])))))) (.seq (.reg [⟨(some p37), none, .ld none (.t p10)⟩, ⟨(some p6), none, .mov (.t p37)⟩, ⟨(some p7), none, .mov (.c (.int .i64 0))⟩] []) .ret))))))))) }
def a20 : AFunc := { params := [], init := i132, results := [.tmp p0], body := (.seq (.reg [⟨(some p0), none, .mov (.c (.bool false))⟩] []) (.kill [p0] (.seq (.reg [⟨(some p18), none, .bslice 2 1 [(.int .i64 0)] [(0, 1, (.c (.int .i64 3))), (1, 1, (.c (.int .i64 5)))]⟩, ⟨(some p19), none, .call (.c (.func (.func 31) #[] #[])) [(.t p18), (.c (.int .i64 4))]⟩, ⟨(some p17), none, .mov (.t p19)⟩, ⟨(some p20), none, .ext 0 (.t p17)⟩, ⟨(some p21), none, .ext 1 (.t p17)⟩, ⟨(some p22), none, .ext 2 (.t p17)⟩, ⟨(some p1), none, .mov (.t p20)⟩, ⟨(some p2), none, .mov (.t p21)⟩, ⟨(some p3), none, .mov (.t p22)⟩] []) (.kill [p17, p18, p19, p20, p21, p22] (.seq (.reg [⟨(some p24), none, .bslice 3 1 [(.int .i64 0)] [(0, 1, (.c (.int .i64 8))), (1, 1, (.c (.int .i64 5))), (2, 1, (.c (.int .i64 3)))]⟩, ⟨(some p25), none, .bslice 3 1 [(.int .i64 0)] [(0, 1, (.c (.int .i64 8))), (1, 1, (.c (.int .i64 0))), (2, 1, (.c (.int .i64 0)))]⟩, ⟨(some p26), none, .bslice 3 1 [(.int .i64 0)] [(0, 1, (.c (.int .i64 4))), (1, 1, (.c (.int .i64 4))), (2, 1, (.c (.int .i64 0)))]⟩, ⟨(some p27), none, .call (.c (.func (.func 22) #[] #[])) [(.t p24), (.t p25), (.t p26), (.c (.bool true))]⟩, ⟨(some p23), none, .mov (.t p27)⟩, ⟨(some p28), none, .ext 0 (.t p23)⟩, ⟨(some p29), none, .ext 1 (.t p23)⟩, ⟨(some p30), none, .ext 2 (.t p23)⟩, ⟨(some p4), none, .mov (.t p28)⟩, ⟨(some p5), none, .mov (.t p29)⟩, ⟨(some p6), none, .mov (.t p30)⟩] []) (.kill [p23, p24, p25, p26, p27, p28, p29, p30] (.seq (.reg [⟨(some p32), none, .bslice 2 1 [(.int .i64 0)] [(0, 1, (.c (.int .i64 4))), (1, 1, (.c (.int .i64 6)))]⟩, ⟨(some p33), none, .call (.c (.func (.func 30) #[] #[])) [(.t p32)]⟩, ⟨(some p31), none, .mov (.t p33)⟩, ⟨(some p34), none, .ext 0 (.t p31)⟩, ⟨(some p35), none, .ext 1 (.t p31)⟩, ⟨(some p7), none, .mov (.t p34)⟩, ⟨(some p8), none, .mov (.t p35)⟩] []) (.kill [p31, p32, p33, p34, p35] (.seq (.reg [⟨(some p37), none, .call (.c (.func (.func 25) #[] #[])) [(.c (.int .i64 3)), (.c (.int .i64 5)), (.c (.int .i64 4))]⟩, ⟨(some p36), none, .mov (.t p37)⟩, ⟨(some p38), none, .ext 0 (.t p36)⟩, ⟨(some p39), none, .ext 1 (.t p36)⟩, ⟨(some p40), none, .ext 2 (.t p36)⟩, ⟨(some p9), none, .mov (.t p38)⟩, ⟨(some p10), none, .mov (.t p39)⟩, ⟨(some p11), none, .mov (.t p40)⟩] []) (.kill [p36, p37, p38, p39, p40] (.seq (.reg [⟨(some p42), none, .call (.c (.func (.func 26) #[] #[])) [(.c (.int .i64 3)), (.c (.int .i64 5)), (.c (.int .i64 3)), (.c (.bool true))]⟩, ⟨(some p41), none, .mov (.t p42)⟩, ⟨(some p43), none, .ext 0 (.t p41)⟩, ⟨(some p44), none, .ext 1 (.t p41)⟩, ⟨(some p45), none, .ext 2 (.t p41)⟩, ⟨(some p12), none, .mov (.t p43)⟩, ⟨(some p13), none, .mov (.t p44)⟩, ⟨(some p14), none, .mov (.t p45)⟩] []) (.kill [p41, p42, p43, p44, p45] (.seq (.reg [⟨(some p47), none, .bslice 1 1 [(.int .i64 0)] [(0, 1, (.c (.int .i64 2)))]⟩, ⟨(some p48), none, .bslice 1 1 [(.int .i64 0)] [(0, 1, (.c (.int .i64 0)))]⟩, ⟨(some p49), none, .call (.c (.func (.func 18) #[] #[])) [(.t p47), (.t p48), (.c (.bool false))]⟩, ⟨(some p46), none, .mov (.t p49)⟩, ⟨(some p50), none, .ext 0 (.t p46)⟩, ⟨(some p51), none, .ext 1 (.t p46)⟩, ⟨(some p15), none, .mov (.t p50)⟩, ⟨(some p16), none, .mov (.t p51)⟩] []) (.kill [p46, p47, p48, p49, p50, p51] (.seq (.reg [⟨(some p52), none, .mov (.t p3)⟩, ⟨(some p53), none, .bin .eql (.t p52) (.c (.int .i64 0))⟩, ⟨(some p54), none, .mov (.t p53)⟩, ⟨(some p55), (some (p54, true)), .mov (.t p2)⟩, ⟨(some p56), none, .pick (.t p54) (.t p55) (.c (.bool false))⟩, ⟨(some p57), none, .mov (.t p56)⟩, ⟨(some p58), (some (p57, true)), .mov (.t p1)⟩, ⟨(some p59), (some (p57, true)), .bin .eql (.t p58) (.c (.int .i64 6))⟩, ⟨(some p60), none, .pick (.t p57) (.t p59) (.c (.bool false))⟩, ⟨(some p61), none, .mov (.t p60)⟩, ⟨(some p62), (some (p61, true)), .mov (.t p6)⟩, ⟨(some p63), (some (p61, true)), .bin .eql (.t p62) (.c (.int .i64 0))⟩, ⟨(some p64), none, .pick (.t p61) (.t p63) (.c (.bool false))⟩, ⟨(some p65), none, .mov (.t p64)⟩, ⟨(some p66), (some (p65, true)), .mov (.t p5)⟩, ⟨(some p67), none, .pick (.t p65) (.t p66) (.c (.bool false))⟩, ⟨(some p68), none, .mov (.t p67)⟩, ⟨(some p69), (some (p68, true)), .mov (.t p4)⟩, ⟨(some p70), (some (p68, true)), .len 1 (.t p69)⟩, ⟨(some p71), (some (p68, true)), .bin .eql (.t p70) (.c (.int .i64 7))⟩, ⟨(some p72), none, .pick (.t p68) (.t p71) (.c (.bool false))⟩, ⟨(some p73), none, .mov (.t p72)⟩, ⟨(some p74), (some (p73, true)), .mov (.t p8)⟩, ⟨(some p75), (some (p73, true)), .bin .eql (.t p74) (.c (.int .i64 0))⟩, ⟨(some p76), none, .pick (.t p73) (.t p75) (.c (.bool false))⟩, ⟨(some p77), none, .mov (.t p76)⟩, ⟨(some p78), (some (p77, true)), .mov (.t p7)⟩, ⟨(some p79), (some (p77, true)), .bslice 4 1 [(.int .i64 0)] [(0, 1, (.c (.int .i64 0))), (1, 1, (.c (.int .i64 2))), (2, 1, (.c (.int .i64 4))), (3, 1, (.c (.int .i64 6)))]⟩, ⟨(some p80), (some (p77, true)), .call (.c (.func (.func 33) #[] #[])) [(.t p78), (.t p79)]⟩, ⟨(some p81), none, .pick (.t p77) (.t p80) (.c (.bool false))⟩, ⟨(some p82), none, .mov (.t p81)⟩, ⟨(some p83), (some (p82, true)), .mov (.t p11)⟩, ⟨(some p84), (some (p82, true)), .bin .eql (.t p83) (.c (.int .i64 0))⟩, ⟨(some p85), none, .pick (.t p82) (.t p84) (.c (.bool false))⟩, ⟨(some p86), none, .mov (.t p85)⟩, ⟨(some p87), (some (p86, true)), .mov (.t p10)⟩, ⟨(some p88), none, .pick (.t p86) (.t p87) (.c (.bool false))⟩, ⟨(some p89), none, .mov (.t p88)⟩, ⟨(some p90), (some (p89, true)), .mov (.t p9)⟩, ⟨(some p91), (some (p89, true)), .bin .eql (.t p90) (.c (.int .i64 6))⟩, ⟨(some p92), none, .pick (.t p89) (.t p91) (.c (.bool false))⟩, ⟨(some p93), none, .mov (.t p92)⟩, ⟨(some p94), (some (p93, true)), .mov (.t p14)⟩, ⟨(some p95), (some (p93, true)), .bin .eql (.t p94) (.c (.int .i64 0))⟩, ⟨(some p96), none, .pick (.t p93) (.t p95) (.c (.bool false))⟩, ⟨(some p97), none, .mov (.t p96)⟩, ⟨(some p98), (some (p97, true)), .mov (.t p13)⟩, ⟨(some p99), none, .pick (.t p97) (.t p98) (.c (.bool false))⟩, ⟨(some p100), none, .mov (.t p99)⟩, ⟨(some p101), (some (p100, true)), .mov (.t p12)⟩, ⟨(some p102), (some (p100, true)), .len 1 (.t p101)⟩, ⟨(some p103), (some (p100, true)), .bin .eql (.t p102) (.c (.int .i64 1))⟩, ⟨(some p104), none, .pick (.t p100) (.t p103) (.c (.bool false))⟩, ⟨(some p105), none, .mov (.t p104)⟩, ⟨(some p106), (some (p105, true)), .mov (.t p12)⟩, ⟨(some p107), (some (p105, true)), .ias 2 (.t p106) (.c (.int .i64 0))⟩, ⟨(some p108), (some (p105, true)), .ld (some 2) (.t p107)⟩, ⟨(some p109), (some (p105, true)), .build [(.int .i64 0), (.int .i64 0)] [(0, 1, (.c (.int .i64 (-1)))), (1, 1, (.c (.int .i64 0)))]⟩, ⟨(some p110), (some (p105, true)), .eqs (.cells [.int, .int]) false (.t p108) (.t p109)⟩, ⟨(some p111), none, .pick (.t p105) (.t p110) (.c (.bool false))⟩, ⟨(some p112), none, .mov (.t p111)⟩, ⟨(some p113), (some (p112, true)), .mov (.t p16)⟩, ⟨(some p114), (some (p112, true)), .bin .eql (.t p113) (.c (.int .i64 0))⟩, ⟨(some p115), none, .pick (.t p112) (.t p114) (.c (.bool false))⟩, ⟨(some p116), none, .mov (.t p115)⟩, ⟨(some p117), (some (p116, true)), .mov (.t p15)⟩, ⟨(some p118), (some (p116, true)), .len 1 (.t p117)⟩, ⟨(some p119), (some (p116, true)), .bin .eql (.t p118) (.c (.int .i64 1))⟩, ⟨(some p120), none, .pick (.t p116) (.t p119) (.c (.bool false))⟩, ⟨(some p121), none, .mov (.t p120)⟩, ⟨(some p122), (some (p121, true)), .mov (.t p15)⟩, ⟨(some p123), (some (p121, true)), .ias 2 (.t p122) (.c (.int .i64 0))⟩, ⟨(some p124), (some (p121, true)), .ld (some 2) (.t p123)⟩, ⟨(some p125), (some (p121, true)), .build [(.int .i64 0), (.int .i64 0)] [(0, 1, (.c (.int .i64 (-1)))), (1, 1, (.c (.int .i64 0)))]⟩, ⟨(some p126), (some (p121, true)), .eqs (.cells [.int, .int]) false (.t p124) (.t p125)⟩, ⟨(some p127), none, .pick (.t p121) (.t p126) (.c (.bool false))⟩, ⟨(some p128), none, .mov (.t p127)⟩, ⟨(some p129), (some (p128, true)), .call (.c (.func (.func 43) #[] #[])) [(.c (.slice none 0 0))]⟩, ⟨(some p130), (some (p128, true)), .bin .eql (.t p129) (.c (.int .i64 20))⟩, ⟨(some p131), none, .pick (.t p128) (.t p130) (.c (.bool false))⟩, ⟨(some p0), none, .mov (.t p131)⟩] []) .ret))))))))))))))) }
def a22 : AFunc := { params := [p0, p1, p2, p3], init := i40, results := [.tmp p8, .tmp p9, .tmp p10], body := (.seq (.reg [⟨(some p8), none, .mov (.c (.slice none 0 0))⟩, ⟨(some p9), none, .mov (.c (.bool false))⟩, ⟨(some p10), none, .mov (.c (.int .i64 0))⟩] []) (.kill [p8, p9, p10] (.seq (.reg [⟨(some p17), none, .mov (.t p0)⟩, ⟨(some p18), none, .mov (.t p3)⟩, ⟨(some p19), none, .mov (.t p1)⟩, ⟨(some p20), none, .mov (.t p2)⟩, ⟨(some p21), none, .bslice 2 1 [(.slice none 0 0)] [(0, 1, (.t p19)), (1, 1, (.t p20))]⟩, ⟨(some p22), none, .call (.c (.func (.func 46) #[] #[])) [(.t p17), (.t p18), (.t p21)]⟩, ⟨(some p16), none, .mov (.t p22)⟩, ⟨(some p23), none, .ext 0 (.t p16)⟩, ⟨(some p24), none, .ext 1 (.t p16)⟩, ⟨(some p11), none, .mov (.t p23)⟩, ⟨(some p12), none, .mov (.t p24)⟩] []) (.kill [p0, p3, p16, p17, p18, p19, p20, p21, p22, p23, p24] (.seq (.seq (.reg [⟨(some p25), none, .mov (.t p12)⟩, ⟨(some p26), none, .bin .neq (.t p25) (.c (.int .i64 0))⟩] []) (.kill [p25] (.cond (.t p26) (.kill [p26] (.seq (.reg [⟨(some p27), none, .mov (.t p12)⟩, ⟨(some p8), none, .mov (.c (.slice none 0 0))⟩, ⟨(some p9), none, .mov (.c (.bool false))⟩, ⟨(some p10), none, .mov (.t p27)⟩] []) .ret)) .skip))) (.kill [p26] (.seq (.reg [⟨(some p28), none, .mov (.t p2)⟩, ⟨(some p29), none, .call (.c (.func (.func 48) #[] #[])) [(.t p28)]⟩, ⟨(some p13), none, .zero [(.int .i64 0), (.int .i64 0), (.int .i64 0), (.int .i64 0)]⟩, ⟨none, none, .st 4 (.t p13) (.t p29)⟩] []) (.kill [p2, p28, p29] (.seq (.reg [⟨(some p31), none, .mov (.t p11)⟩, ⟨(some p32), none, .mov (.t p1)⟩, ⟨(some p33), none, .call (.c (.func (.func 48) #[] #[])) [(.t p32)]⟩, ⟨(some p34), none, .clos (.func 52) [] [(.t p13)]⟩, ⟨(some p35), none, .call (.c (.func (.func 51) #[] #[])) [(.t p31), (.t p33), (.t p34)]⟩, ⟨(some p30), none, .mov (.t p35)⟩, ⟨(some p36), none, .ext 0 (.t p30)⟩, ⟨(some p37), none, .ext 1 (.t p30)⟩, ⟨(some p14), none, .mov (.t p36)⟩, ⟨(some p15), none, .mov (.t p37)⟩] []) (.kill [p1, p11, p13, p30, p31, p32, p33, p34, p35, p36, p37] (.seq (.reg [⟨(some p38), none, .mov (.t p14)⟩, ⟨(some p39), none, .mov (.t p15)⟩, ⟨(some p8), none, .mov (.t p38)⟩, ⟨(some p9), none, .mov (.t p39)⟩, ⟨(some p10), none, .mov (.c (.int .i64 0))⟩] []) .ret))))))))))) }
def a25 : AFunc := { params := [p0, p1, p2], init := i34, results := [.tmp p6, .tmp p7, .tmp p8], body := (.seq (.reg [⟨(some p6), none, .mov (.c (.int .i64 0))⟩, ⟨(some p7), none, .mov (.c (.bool false))⟩, ⟨(some p8), none, .mov (.c (.int .i64 0))⟩] []) (.kill [p6, p7, p8] (.seq (.reg [⟨(some p12), none, .mov (.t p0)⟩, ⟨(some p13), none, .mov (.t p1)⟩, ⟨(some p14), none, .mov (.t p2)⟩, ⟨(some p15), none, .call (.c (.func (.func 53) #[] #[])) [(.t p12), (.t p13), (.t p14)]⟩, ⟨(some p11), none, .mov (.t p15)⟩, ⟨(some p16), none, .ext 0 (.t p11)⟩, ⟨(some p17), none, .ext 1 (.t p11)⟩, ⟨(some p9), none, .mov (.t p16)⟩, ⟨(some p10), none, .mov (.t p17)⟩] []) (.kill [p11, p12, p13, p14, p15, p16, p17] (.seq (.seq (.reg [⟨(some p18), none, .mov (.t p9)⟩, ⟨(some p19), none, .un .not (.t p18)⟩] []) (.kill [p9, p18] (.cond (.t p19) (.kill [p19] (.seq (.reg [⟨(some p20), none, .mov (.t p10)⟩, ⟨(some p6), none, .mov (.c (.int .i64 0))⟩, ⟨(some p7), none, .mov (.c (.bool false))⟩, ⟨(some p8), none, .mov (.t p20)⟩] []) .ret)) .skip))) (.kill [p19] (.seq (.reg [⟨(some p21), none, .mov (.t p0)⟩, ⟨(some p22), none, .mov (.t p1)⟩, ⟨(some p23), none, .call (.c (.func (.func 54) #[] #[])) [(.t p21), (.t p22), (.c (.bool true))]⟩, ⟨(some p24), none, .mov (.t p2)⟩, ⟨(some p25), none, .call (.c (.func (.func 55) #[] #[])) [(.t p23), (.t p24)]⟩, ⟨(some p26), none, .len 1 (.t p25)⟩, ⟨(some p27), none, .mov (.t p0)⟩, ⟨(some p28), none, .mov (.t p1)⟩, ⟨(some p29), none, .call (.c (.func (.func 54) #[] #[])) [(.t p27), (.t p28), (.c (.bool false))]⟩, ⟨(some p30), none, .mov (.t p2)⟩, ⟨(some p31), none, .call (.c (.func (.func 55) #[] #[])) [(.t p29), (.t p30)]⟩, ⟨(some p32), none, .len 1 (.t p31)⟩, ⟨(some p33), none, .min (.t p26) [(.t p32)]⟩, ⟨(some p6), none, .mov (.t p33)⟩, ⟨(some p7), none, .mov (.c (.bool true))⟩, ⟨(some p8), none, .mov (.c (.int .i64 0))⟩] []) .ret))))))) }
def a26 : AFunc := { params := [p0, p1, p2, p3], init := i29, results := [.tmp p8, .tmp p9, .tmp p10], body := (.seq (.reg [⟨(some p8), none, .mov (.c (.slice none 0 0))⟩, ⟨(some p9), none, .mov (.c (.bool false))⟩, ⟨(some p10), none, .mov (.c (.int .i64 0))⟩] []) (.kill [p8, p9, p10] (.seq (.reg [⟨(some p14), none, .mov (.t p0)⟩, ⟨(some p15), none, .mov (.t p1)⟩, ⟨(some p16), none, .mov (.t p2)⟩, ⟨(some p17), none, .call (.c (.func (.func 53) #[] #[])) [(.t p14), (.t p15), (.t p16)]⟩, ⟨(some p13), none, .mov (.t p17)⟩, ⟨(some p18), none, .ext 0 (.t p13)⟩, ⟨(some p19), none, .ext 1 (.t p13)⟩, ⟨(some p11), none, .mov (.t p18)⟩, ⟨(some p12), none, .mov (.t p19)⟩] []) (.kill [p13, p14, p15, p16, p17, p18, p19] (.seq (.seq (.reg [⟨(some p20), none, .mov (.t p11)⟩, ⟨(some p21), none, .un .not (.t p20)⟩] []) (.kill [p11, p20] (.cond (.t p21) (.kill [p21] (.seq (.reg [⟨(some p22), none, .mov (.t p12)⟩, ⟨(some p8), none, .mov (.c (.slice none 0 0))⟩, ⟨(some p9), none, .mov (.c (.bool false))⟩, ⟨(some p10), none, .mov (.t p22)⟩] []) .ret)) .skip))) (.kill [p21] (.seq (.reg [⟨(some p23), none, .mov (.t p0)⟩, ⟨(some p24), none, .mov (.t p1)⟩, ⟨(some p25), none, .mov (.t p3)⟩, ⟨(some p26), none, .call (.c (.func (.func 54) #[] #[])) [(.t p23), (.t p24), (.t p25)]⟩, ⟨(some p27), none, .mov (.t p2)⟩, ⟨(some p28), none, .call (.c (.func (.func 55) #[] #[])) [(.t p26), (.t p27)]⟩, ⟨(some p8), none, .mov (.t p28)⟩, ⟨(some p9), none, .mov (.c (.bool true))⟩, ⟨(some p10), none, .mov (.c (.int .i64 0))⟩] []) .ret))))))) }
def a30 : AFunc := { params := [p0], init := i25, results := [.tmp p2, .tmp p3], body := (.seq (.reg [⟨(some p2), none, .mov (.c (.slice none 0 0))⟩, ⟨(some p3), none, .mov (.c (.int .i64 0))⟩] []) (.kill [p2, p3] (.seq (.seq (.reg [⟨(some p7), none, .mov (.t p0)⟩, ⟨(some p8), none, .call (.c (.func (.func 43) #[] #[])) [(.t p7)]⟩, ⟨(some p4), none, .mov (.t p8)⟩] []) (.kill [p7, p8] (.seq (.reg [⟨(some p9), none, .mov (.t p4)⟩, ⟨(some p10), none, .bin .neq (.t p9) (.c (.int .i64 0))⟩] []) (.kill [p9] (.cond (.t p10) (.kill [p10] (.seq (.reg [⟨(some p11), none, .mov (.t p4)⟩, ⟨(some p2), none, .mov (.c (.slice none 0 0))⟩, ⟨(some p3), none, .mov (.t p11)⟩] []) .ret)) .skip))))) (.kill [p10] (.seq (.reg [⟨(some p5), none, .mov (.c (.slice none 0 0))⟩] []) (.seq (.seq (.reg [⟨(some p6), none, .mov (.c (.int .i64 0))⟩] []) (.block 0 (.loop (.seq (.seq (.reg [⟨(some p12), none, .mov (.t p6)⟩, ⟨(some p13), none, .mov (.t p0)⟩, ⟨(some p14), none, .call (.c (.func (.func 57) #[] #[])) [(.t p13)]⟩, ⟨(some p15), none, .bin .leq (.t p12) (.t p14)⟩] []) (.kill [p12, p13, p14] (.cond (.t p15) .skip (.exit 0)))) (.kill [p15] (.seq (.block 1 (.reg [⟨(some p20), none, .mov (.t p5)⟩, ⟨(some p21), none, .mov (.t p6)⟩, ⟨(some p22), none, .bslice 1 1 [(.int .i64 0)] [(0, 1, (.t p21))]⟩, ⟨(some p23), none, .app 1 (.t p20) (.t p22)⟩, ⟨(some p5), none, .mov (.t p23)⟩] [])) (.kill [p20, p21, p22, p23] (.reg [⟨(some p16), none, .mov (.t p6)⟩, ⟨(some p17), none, .mov (.t p0)⟩, ⟨(some p18), none, .call (.c (.func (.func 58) #[] #[])) [(.t p17)]⟩, ⟨(some p19), none, .bin .add (.t p16) (.t p18)⟩, ⟨(some p6), none, .mov (.t p19)⟩] [])))))))) (.kill [p0, p6, p15] (.seq (.reg [⟨(some p24), none, .mov (.t p5)⟩, ⟨(some p2), none, .mov (.t p24)⟩, ⟨(some p3), none, .mov (.c (.int .i64 0))⟩] []) .ret)))))))) }
def a31 : AFunc := { params := [p0, p1], init := i21, results := [.tmp p4, .tmp p5, .tmp p6], body := (.seq (.reg [⟨(some p4), none, .mov (.c (.int .i64 0))⟩, ⟨(some p5), none, .mov (.c (.bool false))⟩, ⟨(some p6), none, .mov (.c (.int .i64 0))⟩] []) (.kill [p4, p5, p6] (.seq (.reg [⟨(some p11), none, .mov (.t p0)⟩, ⟨(some p12), none, .mov (.t p1)⟩, ⟨(some p13), none, .call (.c (.func (.func 59) #[] #[])) [(.t p11), (.t p12)]⟩, ⟨(some p10), none, .mov (.t p13)⟩, ⟨(some p14), none, .ext 0 (.t p10)⟩, ⟨(some p15), none, .ext 1 (.t p10)⟩, ⟨(some p16), none, .ext 2 (.t p10)⟩, ⟨(some p7), none, .mov (.t p14)⟩, ⟨(some p8), none, .mov (.t p15)⟩, ⟨(some p9), none, .mov (.t p16)⟩] []) (.kill [p0, p1, p10, p11, p12, p13, p14, p15, p16] (.seq (.reg [⟨(some p17), none, .mov (.t p7)⟩, ⟨(some p18), none, .len 1 (.t p17)⟩, ⟨(some p19), none, .mov (.t p8)⟩, ⟨(some p20), none, .mov (.t p9)⟩, ⟨(some p4), none, .mov (.t p18)⟩, ⟨(some p5), none, .mov (.t p19)⟩, ⟨(some p6), none, .mov (.t p20)⟩] []) .ret))))) }
def a33 : AFunc := { params := [p0, p1], init := i26, results := [.tmp p4], body := (.seq (.reg [⟨(some p4), none, .mov (.c (.bool false))⟩] []) (.kill [p4] (.seq (.seq (.reg [⟨(some p6), none, .mov (.t p0)⟩, ⟨(some p7), none, .len 1 (.t p6)⟩, ⟨(some p8), none, .mov (.t p1)⟩, ⟨(some p9), none, .len 1 (.t p8)⟩, ⟨(some p10), none, .bin .neq (.t p7) (.t p9)⟩] []) (.kill [p6, p7, p8, p9] (.cond (.t p10) (.kill [p10] (.seq (.reg [⟨(some p4), none, .mov (.c (.bool false))⟩] []) .ret)) .skip))) (.kill [p10] (.seq (.seq (.reg [⟨(some p5), none, .mov (.c (.int .i64 0))⟩] []) (.block 0 (.loop (.seq (.seq (.reg [⟨(some p11), none, .mov (.t p5)⟩, ⟨(some p12), none, .mov (.t p0)⟩, ⟨(some p13), none, .len 1 (.t p12)⟩, ⟨(some p14), none, .bin .lss (.t p11) (.t p13)⟩] []) (.kill [p11, p12, p13] (.cond (.t p14) .skip (.exit 0)))) (.kill [p14] (.seq (.block 1 (.seq (.reg [⟨(some p17), none, .mov (.t p0)⟩, ⟨(some p18), none, .mov (.t p5)⟩, ⟨(some p19), none, .ias 1 (.t p17) (.t p18)⟩, ⟨(some p20), none, .ld none (.t p19)⟩, ⟨(some p21), none, .mov (.t p1)⟩, ⟨(some p22), none, .mov (.t p5)⟩, ⟨(some p23), none, .ias 1 (.t p21) (.t p22)⟩, ⟨(some p24), none, .ld none (.t p23)⟩, ⟨(some p25), none, .bin .neq (.t p20) (.t p24)⟩] []) (.kill [p17, p18, p19, p20, p21, p22, p23, p24] (.cond (.t p25) (.kill [p25] (.seq (.reg [⟨(some p4), none, .mov (.c (.bool false))⟩] []) .ret)) .skip)))) (.kill [p25] (.reg [⟨(some p15), none, .mov (.t p5)⟩, ⟨(some p16), none, .bin .add (.t p15) (.c (.int .i64 1))⟩, ⟨(some p5), none, .mov (.t p16)⟩] [])))))))) (.kill [p0, p1, p5, p14] (.seq (.reg [⟨(some p4), none, .mov (.c (.bool true))⟩] []) .ret))))))) }
def a43 : AFunc := { params := [p0], init := i21, results := [.tmp p2], body := (.seq (.reg [⟨(some p2), none, .mov (.c (.int .i64 0))⟩] []) (.kill [p2] (.seq (.seq (.reg [⟨(some p3), none, .mov (.t p0)⟩, ⟨(some p4), none, .len 1 (.t p3)⟩, ⟨(some p5), none, .bin .lss (.t p4) (.c (.int .i64 1))⟩, ⟨(some p6), none, .mov (.t p5)⟩, ⟨(some p7), (some (p6, false)), .mov (.t p0)⟩, ⟨(some p8), (some (p6, false)), .len 1 (.t p7)⟩, ⟨(some p9), (some (p6, false)), .bin .gtr (.t p8) (.c (.int .i64 4))⟩, ⟨(some p10), none, .pick (.t p6) (.c (.bool true)) (.t p9)⟩, ⟨(some p11), none, .mov (.t p10)⟩, ⟨(some p12), (some (p11, false)), .mov (.t p0)⟩, ⟨(some p13), (some (p11, false)), .call (.c (.func (.func 64) #[] #[])) [(.t p12)]⟩, ⟨(some p14), (some (p11, false)), .bin .lss (.t p13) (.c (.int .i64 1))⟩, ⟨(some p15), none, .pick (.t p11) (.c (.bool true)) (.t p14)⟩, ⟨(some p16), none, .mov (.t p15)⟩, ⟨(some p17), (some (p16, false)), .mov (.t p0)⟩, ⟨(some p18), (some (p16, false)), .call (.c (.func (.func 57) #[] #[])) [(.t p17)]⟩, ⟨(some p19), (some (p16, false)), .bin .gtr (.t p18) (.c (.int .i64 12))⟩, ⟨(some p20), none, .pick (.t p16) (.c (.bool true)) (.t p19)⟩] []) (.kill [p0, p3, p4, p5, p6, p7, p8, p9, p10, p11, p12, p13, p14, p15, p16, p17, p18, p19] (.cond (.t p20) (.kill [p20] (.seq (.reg [⟨(some p2), none, .mov (.c (.int .i64 20))⟩] []) .ret)) .skip))) (.kill [p20] (.seq (.reg [⟨(some p2), none, .mov (.c (.int .i64 0))⟩] []) .ret))))) }
def a46 : AFunc := { params := [p0, p1, p2], init := i63, results := [.tmp p6, .tmp p7], body := (.seq (.reg [⟨(some p6), none, .mov (.c (.pointer none))⟩, ⟨(some p7), none, .mov (.c (.int .i64 0))⟩] []) (.kill [p6, p7] (.seq (.seq (.reg [⟨(some p14), none, .mov (.t p0)⟩, ⟨(some p15), none, .call (.c (.func (.func 43) #[] #[])) [(.t p14)]⟩, ⟨(some p8), none, .mov (.t p15)⟩] []) (.kill [p14, p15] (.seq (.reg [⟨(some p16), none, .mov (.t p8)⟩, ⟨(some p17), none, .bin .neq (.t p16) (.c (.int .i64 0))⟩] []) (.kill [p16] (.cond (.t p17) (.kill [p17] (.seq (.reg [⟨(some p18), none, .mov (.t p8)⟩, ⟨(some p6), none, .mov (.c (.pointer none))⟩, ⟨(some p7), none, .mov (.t p18)⟩] []) .ret)) .skip))))) (.kill [p17] (.seq (.reg [⟨(some p19), none, .mov (.t p0)⟩, ⟨(some p20), none, .len 1 (.t p19)⟩, ⟨(some p21), none, .mov (.t p1)⟩, ⟨(some p22), none, .build [(.int .i64 0), (.int .i64 0), (.int .i64 0), (.int .i64 0), (.int .i64 0), (.bool false)] [(0, 1, (.t p20)), (5, 1, (.t p21))]⟩, ⟨(some p23), none, .box (.t p22)⟩, ⟨(some p9), none, .mov (.t p23)⟩] []) (.kill [p1, p19, p20, p21, p22, p23] (.seq (.reg [⟨(some p24), none, .mov (.t p9)⟩, ⟨(some p25), none, .nilchk (.t p24)⟩, ⟨(some p26), none, .fad 1 (.t p25)⟩, ⟨(some p27), none, .slarr 4 1 (.t p26) none none none⟩, ⟨(some p28), none, .mov (.t p0)⟩, ⟨(some p29), none, .cpy 1 (.t p27) (.t p28)⟩] []) (.kill [p24, p25, p26, p27, p28, p29] (.seq (.seq (.reg [⟨(some p30), none, .mov (.t p2)⟩, ⟨(some p31), none, .len 1 (.t p30)⟩, ⟨(some p32), none, .mov (.c (.int .i64 0))⟩] []) (.kill [p2] (.block 0 (.loop (.seq (.reg [⟨(some p33), none, .bin .lss (.t p32) (.t p31)⟩] []) (.seq (.cond (.t p33) .skip (.exit 0)) (.kill [p33] (.seq (.block 1 (.seq (.reg [⟨(some p34), none, .ias 1 (.t p30) (.t p32)⟩, ⟨(some p35), none, .ld none (.t p34)⟩, ⟨(some p11), none, .mov (.t p35)⟩] []) (.kill [p34, p35] (.seq (.seq (.reg [⟨(some p36), none, .mov (.t p11)⟩, ⟨(some p37), none, .len 1 (.t p36)⟩, ⟨(some p38), none, .mov (.t p9)⟩, ⟨(some p39), none, .nilchk (.t p38)⟩, ⟨(some p40), none, .fad 0 (.t p39)⟩, ⟨(some p41), none, .ld none (.t p40)⟩, ⟨(some p42), none, .bin .neq (.t p37) (.t p41)⟩] []) (.kill [p36, p37, p38, p39, p40, p41] (.cond (.t p42) (.kill [p42] (.seq (.reg [⟨(some p6), none, .mov (.c (.pointer none))⟩, ⟨(some p7), none, .mov (.c (.int .i64 1))⟩] []) .ret)) .skip))) (.kill [p42] (.seq (.reg [⟨(some p43), none, .mov (.t p11)⟩, ⟨(some p44), none, .len 1 (.t p43)⟩, ⟨(some p45), none, .mov (.c (.int .i64 0))⟩] []) (.kill [p11] (.block 2 (.loop (.seq (.reg [⟨(some p46), none, .bin .lss (.t p45) (.t p44)⟩] []) (.seq (.cond (.t p46) .skip (.exit 2)) (.kill [p46] (.seq (.block 3 (.seq (.reg [⟨(some p47), none, .mov (.t p45)⟩, ⟨(some p48), none, .ias 1 (.t p43) (.t p45)⟩, ⟨(some p49), none, .ld none (.t p48)⟩, ⟨(some p12), none, .mov (.t p47)⟩, ⟨(some p13), none, .mov (.t p49)⟩] []) (.kill [p47, p48, p49] (.seq (.reg [⟨(some p50), none, .mov (.t p13)⟩, ⟨(some p51), none, .bin .lss (.t p50) (.c (.int .i64 0))⟩, ⟨(some p52), none, .mov (.t p51)⟩, ⟨(some p53), (some (p52, false)), .mov (.t p13)⟩, ⟨(some p54), (some (p52, false)), .mov (.t p0)⟩, ⟨(some p55), (some (p52, false)), .mov (.t p12)⟩, ⟨(some p56), (some (p52, false)), .ias 1 (.t p54) (.t p55)⟩, ⟨(some p57), (some (p52, false)), .ld none (.t p56)⟩, ⟨(some p58), (some (p52, false)), .bin .gtr (.t p53) (.t p57)⟩, ⟨(some p59), none, .pick (.t p52) (.c (.bool true)) (.t p58)⟩] []) (.kill [p12, p13, p50, p51, p52, p53, p54, p55, p56, p57, p58] (.cond (.t p59) (.kill [p59] (.seq (.reg [⟨(some p6), none, .mov (.c (.pointer none))⟩, ⟨(some p7), none, .mov (.c (.int .i64 1))⟩] []) .ret)) .skip)))))) (.kill [p59] (.reg [⟨(some p60), none, .bin .add (.t p45) (.c (.int .i64 1))⟩, ⟨(some p45), none, .mov (.t p60)⟩] []))))))))))))))) (.kill [p43, p44, p45, p46] (.reg [⟨(some p61), none, .bin .add (.t p32) (.c (.int .i64 1))⟩, ⟨(some p32), none, .mov (.t p61)⟩] [])))))))))) (.kill [p0, p30, p31, p32, p33, p46] (.seq (.reg [⟨(some p62), none, .mov (.t p9)⟩, ⟨(some p6), none, .mov (.t p62)⟩, ⟨(some p7), none, .mov (.c (.int .i64 0))⟩] []) .ret))))))))))) }
def a47 : AFunc := { params := [p0, p1], init := i6, results := [.tmp p4], body := (.seq (.reg [⟨(some p2), none, .box (.t p0)⟩, ⟨(some p3), none, .box (.t p1)⟩, ⟨(some p4), none, .mov (.c .nilFunc)⟩] []) (.kill [p0, p1, p4] (.seq (.reg [⟨(some p5), none, .clos (.func 65) [] [(.t p2), (.t p3)]⟩, ⟨(some p4), none, .mov (.t p5)⟩] []) .ret))) }
def a48 : AFunc := { params := [p0], init := i8, results := [.cell (some 4) p2], body := (.seq (.reg [⟨(some p2), none, .zero [(.int .i64 0), (.int .i64 0), (.int .i64 0), (.int .i64 0)]⟩] []) (.seq (.reg [⟨(some p3), none, .zero [(.int .i64 0), (.int .i64 0), (.int .i64 0), (.int .i64 0)]⟩] []) (.seq (.reg [⟨(some p4), none, .slarr 4 1 (.t p3) none none none⟩, ⟨(some p5), none, .mov (.t p0)⟩, ⟨(some p6), none, .cpy 1 (.t p4) (.t p5)⟩] []) (.kill [p0, p4, p5, p6] (.seq (.reg [⟨(some p7), none, .ld (some 4) (.t p3)⟩, ⟨none, none, .st 4 (.t p2) (.t p7)⟩] []) .ret))))) }
def a51 : AFunc := { params := [p0, p1, p2], init := i44, results := [.tmp p6, .tmp p7], body := (.seq (.reg [⟨(some p4), none, .box (.t p1)⟩, ⟨(some p6), none, .mov (.c (.slice none 0 0))⟩, ⟨(some p7), none, .mov (.c (.bool false))⟩] []) (.kill [p1, p6, p7] (.seq (.reg [⟨(some p14), none, .mov (.t p0)⟩, ⟨(some p15), none, .ld (some 4) (.t p4)⟩, ⟨(some p16), none, .mov (.t p2)⟩, ⟨(some p17), none, .call (.c (.func (.func 66) #[] #[])) [(.t p14), (.t p15), (.t p16)]⟩, ⟨(some p13), none, .mov (.t p17)⟩, ⟨(some p18), none, .ext 0 (.t p13)⟩, ⟨(some p19), none, .ext 1 (.t p13)⟩, ⟨(some p20), none, .ext 2 (.t p13)⟩, ⟨(some p9), none, .zero [(.int .i64 0), (.int .i64 0), (.int .i64 0), (.int .i64 0)]⟩, ⟨(some p8), none, .mov (.t p18)⟩, ⟨none, none, .st 4 (.t p9) (.t p19)⟩, ⟨(some p10), none, .mov (.t p20)⟩] []) (.kill [p0, p2, p13, p14, p15, p16, p17, p18, p19, p20] (.seq (.seq (.reg [⟨(some p21), none, .mov (.t p10)⟩, ⟨(some p22), none, .un .not (.t p21)⟩] []) (.kill [p10, p21] (.cond (.t p22) (.kill [p22] (.seq (.reg [⟨(some p6), none, .mov (.c (.slice none 0 0))⟩, ⟨(some p7), none, .mov (.c (.bool false))⟩] []) .ret)) .skip))) (.kill [p22] (.seq (.reg [⟨(some p11), none, .mov (.c (.slice none 0 0))⟩] []) (.seq (.block 0 (.loop (.seq (.seq (.reg [⟨(some p23), none, .ld (some 4) (.t p9)⟩, ⟨(some p24), none, .ld (some 4) (.t p4)⟩, ⟨(some p25), none, .eqs (.cells [.int, .int, .int, .int]) true (.t p23) (.t p24)⟩] []) (.kill [p23, p24] (.cond (.t p25) .skip (.exit 0)))) (.kill [p25] (.block 1 (.seq (.reg [⟨(some p26), none, .mov (.t p8)⟩, ⟨(some p27), none, .ld (some 4) (.t p9)⟩, ⟨(some p28), none, .look false [.int, .int, .int, .int] (.agg #[(.int .i64 0), (.int .i64 0), (.int .i64 0), (.int .i64 0), (.int .i64 0), (.int .i64 0), (.int .i64 0)]) (.t p26) (.t p27)⟩, ⟨(some p12), none, .zero [(.int .i64 0), (.int .i64 0), (.int .i64 0), (.int .i64 0), (.int .i64 0), (.int .i64 0), (.int .i64 0)]⟩, ⟨none, none, .st 7 (.t p12) (.t p28)⟩] []) (.kill [p26, p27, p28] (.seq (.reg [⟨(some p29), none, .mov (.t p11)⟩, ⟨(some p30), none, .fad 4 (.t p12)⟩, ⟨(some p31), none, .fad 0 (.t p30)⟩, ⟨(some p32), none, .ld none (.t p31)⟩, ⟨(some p33), none, .fad 4 (.t p12)⟩, ⟨(some p34), none, .fad 1 (.t p33)⟩, ⟨(some p35), none, .ld none (.t p34)⟩, ⟨(some p36), none, .build [(.int .i64 0), (.int .i64 0)] [(0, 1, (.t p32)), (1, 1, (.t p35))]⟩, ⟨(some p37), none, .bslice 1 2 [(.int .i64 0), (.int .i64 0)] [(0, 2, (.t p36))]⟩, ⟨(some p38), none, .app 2 (.t p29) (.t p37)⟩, ⟨(some p11), none, .mov (.t p38)⟩] []) (.kill [p29, p30, p31, p32, p33, p34, p35, p36, p37, p38] (.reg [⟨(some p39), none, .fad 0 (.t p12)⟩, ⟨(some p40), none, .ld (some 4) (.t p39)⟩, ⟨none, none, .st 4 (.t p9) (.t p40)⟩] [])))))))))) (.kill [p4, p8, p9, p25] (.seq (.reg [⟨(some p41), none, .mov (.t p11)⟩, ⟨(some p42), none, .call (.c (.func (.func 67) #[] #[])) [(.t p41)]⟩] []) (.kill [p41, p42] (.seq (.reg [⟨(some p43), none, .mov (.t p11)⟩, ⟨(some p6), none, .mov (.t p43)⟩, ⟨(some p7), none, .mov (.c (.bool true))⟩] []) .ret)))))))))))) }
def a52 : AFunc := { params := [p0, p1], init := i7, results := [.tmp p3], body := (.seq (.reg [⟨(some p2), none, .box (.t p0)⟩, ⟨(some p3), none, .mov (.c (.bool false))⟩] []) (.kill [p0, p3] (.seq (.reg [⟨(some p4), none, .ld (some 4) (.t p2)⟩, ⟨(some p5), none, .ld (some 4) (.t p1)⟩, ⟨(some p6), none, .eqs (.cells [.int, .int, .int, .int]) false (.t p4) (.t p5)⟩, ⟨(some p3), none, .mov (.t p6)⟩] []) .ret))) }
def a53 : AFunc := { params := [p0, p1, p2], init := i36, results := [.tmp p6, .tmp p7], body := (.seq (.reg [⟨(some p6), none, .mov (.c (.bool false))⟩, ⟨(some p7), none, .mov (.c (.int .i64 0))⟩] []) (.kill [p6, p7] (.seq (.seq (.reg [⟨(some p8), none, .mov (.t p0)⟩, ⟨(some p9), none, .mov (.t p1)⟩, ⟨(some p10), none, .min (.t p8) [(.t p9)]⟩, ⟨(some p11), none, .bin .lss (.t p10) (.c (.int .i64 1))⟩, ⟨(some p12), none, .mov (.t p11)⟩, ⟨(some p13), (some (p12, false)), .mov (.t p0)⟩, ⟨(some p14), (some (p12, false)), .mov (.t p1)⟩, ⟨(some p15), (some (p12, false)), .max (.t p13) [(.t p14)]⟩, ⟨(some p16), (some (p12, false)), .bin .gtr (.t p15) (.c (.int .i64 1000))⟩, ⟨(some p17), none, .pick (.t p12) (.c (.bool true)) (.t p16)⟩, ⟨(some p18), none, .mov (.t p17)⟩, ⟨(some p19), (some (p18, false)), .mov (.t p2)⟩, ⟨(some p20), (some (p18, false)), .bin .lss (.t p19) (.c (.int .i64 0))⟩, ⟨(some p21), none, .pick (.t p18) (.c (.bool true)) (.t p20)⟩, ⟨(some p22), none, .mov (.t p21)⟩, ⟨(some p23), (some (p22, false)), .mov (.t p2)⟩, ⟨(some p24), (some (p22, false)), .mov (.t p0)⟩, ⟨(some p25), (some (p22, false)), .mov (.t p1)⟩, ⟨(some p26), (some (p22, false)), .max (.t p24) [(.t p25)]⟩, ⟨(some p27), (some (p22, false)), .bin .gtr (.t p23) (.t p26)⟩, ⟨(some p28), none, .pick (.t p22) (.c (.bool true)) (.t p27)⟩] []) (.kill [p8, p9, p10, p11, p12, p13, p14, p15, p16, p17, p18, p19, p20, p21, p22, p23, p24, p25, p26, p27] (.cond (.t p28) (.kill [p28] (.seq (.reg [⟨(some p6), none, .mov (.c (.bool false))⟩, ⟨(some p7), none, .mov (.c (.int .i64 1))⟩] []) .ret)) .skip))) (.kill [p28] (.seq (.reg [⟨(some p29), none, .mov (.t p2)⟩, ⟨(some p30), none, .mov (.t p0)⟩, ⟨(some p31), none, .mov (.t p1)⟩, ⟨(some p32), none, .bslice 2 1 [(.int .i64 0)] [(0, 1, (.t p30)), (1, 1, (.t p31))]⟩, ⟨(some p33), none, .call (.c (.func (.func 58) #[] #[])) [(.t p32)]⟩, ⟨(some p34), none, .bin .rem (.t p29) (.t p33)⟩, ⟨(some p35), none, .bin .eql (.t p34) (.c (.int .i64 0))⟩, ⟨(some p6), none, .mov (.t p35)⟩, ⟨(some p7), none, .mov (.c (.int .i64 0))⟩] []) .ret))))) }
def a54 : AFunc := { params := [p0, p1, p2], init := i17, results := [.cell (some 7) p6], body := (.seq (.reg [⟨(some p6), none, .zero [(.int .i64 0), (.int .i64 0), (.int .i64 0), (.int .i64 0), (.int .i64 0), (.bool false), (.int .i64 0)]⟩] []) (.seq (.reg [⟨(some p8), none, .mov (.t p0)⟩, ⟨(some p9), none, .mov (.t p1)⟩, ⟨(some p10), none, .build [(.int .i64 0), (.int .i64 0), (.int .i64 0), (.int .i64 0)] [(0, 1, (.t p8)), (1, 1, (.t p9))]⟩, ⟨(some p11), none, .build [(.int .i64 0), (.int .i64 0), (.int .i64 0), (.int .i64 0), (.int .i64 0), (.bool false)] [(0, 1, (.c (.int .i64 2))), (1, 4, (.t p10))]⟩, ⟨(some p12), none, .build [(.int .i64 0), (.int .i64 0), (.int .i64 0), (.int .i64 0), (.int .i64 0), (.bool false), (.int .i64 0)] [(0, 6, (.t p11))]⟩, ⟨(some p7), none, .zero [(.int .i64 0), (.int .i64 0), (.int .i64 0), (.int .i64 0), (.int .i64 0), (.bool false), (.int .i64 0)]⟩, ⟨none, none, .st 7 (.t p7) (.t p12)⟩] []) (.kill [p0, p1, p8, p9, p10, p11, p12] (.seq (.seq (.reg [⟨(some p13), none, .mov (.t p2)⟩, ⟨(some p14), none, .un .not (.t p13)⟩] []) (.kill [p2, p13] (.cond (.t p14) (.kill [p14] (.reg [⟨(some p15), none, .fad 6 (.t p7)⟩, ⟨none, none, .st 1 (.t p15) (.c (.int .i64 1))⟩] [])) .skip))) (.kill [p14, p15] (.seq (.reg [⟨(some p16), none, .ld (some 7) (.t p7)⟩, ⟨none, none, .st 7 (.t p6) (.t p16)⟩] []) .ret)))))) }
def a55 : AFunc := { params := [p0, p1], init := i39, results := [.tmp p4], body := (.seq (.reg [⟨(some p2), none, .box (.t p0)⟩, ⟨(some p4), none, .mov (.c (.slice none 0 0))⟩] []) (.kill [p0, p4] (.seq (.reg [⟨(some p5), none, .mov (.c (.slice none 0 0))⟩] []) (.seq (.reg [⟨(some p9), none, .ld (some 7) (.t p2)⟩, ⟨(some p10), none, .clos (.func 68) [(.t p9)] []⟩, ⟨(some p6), none, .mov (.t p10)⟩] []) (.kill [p9, p10] (.seq (.seq (.reg [⟨(some p11), none, .build [(.int .i64 0), (.int .i64 0), (.int .i64 0), (.int .i64 0)] []⟩, ⟨(some p7), none, .zero [(.int .i64 0), (.int .i64 0), (.int .i64 0), (.int .i64 0)]⟩, ⟨none, none, .st 4 (.t p7) (.t p11)⟩] []) (.kill [p11] (.block 0 (.loop (.seq (.seq (.reg [⟨(some p12), none, .iad 4 1 (.t p7) (.c (.int .i64 0))⟩, ⟨(some p13), none, .ld none (.t p12)⟩, ⟨(some p14), none, .mov (.t p1)⟩, ⟨(some p15), none, .bin .neq (.t p13) (.t p14)⟩, ⟨(some p16), none, .mov (.t p15)⟩, ⟨(some p17), (some (p16, true)), .iad 4 1 (.t p7) (.c (.int .i64 1))⟩, ⟨(some p18), (some (p16, true)), .ld none (.t p17)⟩, ⟨(some p19), (some (p16, true)), .mov (.t p1)⟩, ⟨(some p20), (some (p16, true)), .bin .neq (.t p18) (.t p19)⟩, ⟨(some p21), none, .pick (.t p16) (.t p20) (.c (.bool false))⟩] []) (.kill [p12, p13, p14, p15, p16, p17, p18, p19, p20] (.cond (.t p21) .skip (.exit 0)))) (.kill [p21] (.seq (.block 1 (.seq (.reg [⟨(some p22), none, .mov (.t p6)⟩, ⟨(some p23), none, .ld (some 4) (.t p7)⟩, ⟨(some p24), none, .call (.t p22) [(.t p23)]⟩, ⟨(some p8), none, .zero [(.int .i64 0), (.int .i64 0)]⟩, ⟨none, none, .st 2 (.t p8) (.t p24)⟩] []) (.kill [p22, p23, p24] (.seq (.reg [⟨(some p25), none, .mov (.t p5)⟩, ⟨(some p26), none, .fad 0 (.t p8)⟩, ⟨(some p27), none, .ld none (.t p26)⟩, ⟨(some p28), none, .fad 1 (.t p8)⟩, ⟨(some p29), none, .ld none (.t p28)⟩, ⟨(some p30), none, .build [(.int .i64 0), (.int .i64 0)] [(0, 1, (.t p27)), (1, 1, (.t p29))]⟩, ⟨(some p31), none, .bslice 1 2 [(.int .i64 0), (.int .i64 0)] [(0, 2, (.t p30))]⟩, ⟨(some p32), none, .app 2 (.t p25) (.t p31)⟩, ⟨(some p5), none, .mov (.t p32)⟩] []) (.kill [p25, p26, p27, p28, p29, p30, p31, p32] (.reg [⟨(some p33), none, .ld (some 2) (.t p8)⟩, ⟨(some p34), none, .fad 0 (.t p2)⟩, ⟨(some p35), none, .ld (some 4) (.t p7)⟩, ⟨(some p36), none, .call (.c (.func (.func 62) #[] #[])) [(.t p33), (.t p34), (.t p35)]⟩, ⟨none, none, .st 4 (.t p7) (.t p36)⟩] [])))))) (.kill [p8, p33, p34, p35, p36] (.seq (.reg [⟨(some p37), none, .ld (some 4) (.t p7)⟩] []) (.kill [p7] (.reg [⟨(some p7), none, .zero [(.int .i64 0), (.int .i64 0), (.int .i64 0), (.int .i64 0)]⟩, ⟨none, none, .st 4 (.t p7) (.t p37)⟩] []))))))))))) (.kill [p1, p2, p6, p7, p21] (.seq (.reg [⟨(some p38), none, .mov (.t p5)⟩, ⟨(some p4), none, .mov (.t p38)⟩] []) .ret)))))))) }
def a57 : AFunc := { params := [p0], init := i25, results := [.tmp p2], body := (.seq (.reg [⟨(some p2), none, .mov (.c (.int .i64 0))⟩] []) (.kill [p2] (.seq (.seq (.reg [⟨(some p5), none, .mov (.t p0)⟩, ⟨(some p6), none, .len 1 (.t p5)⟩, ⟨(some p7), none, .bin .lss (.t p6) (.c (.int .i64 1))⟩] []) (.kill [p5, p6] (.cond (.t p7) (.kill [p7] (.reg [⟨(some p8), none, .bad⟩, ⟨none, none, .bad⟩] [])) .skip))) (.kill [p7, p8] (.seq (.reg [⟨(some p9), none, .mov (.t p0)⟩, ⟨(some p10), none, .ias 1 (.t p9) (.c (.int .i64 0))⟩, ⟨(some p11), none, .ld none (.t p10)⟩, ⟨(some p3), none, .mov (.t p11)⟩] []) (.kill [p9, p10, p11] (.seq (.seq (.reg [⟨(some p4), none, .mov (.c (.int .i64 1))⟩] []) (.block 0 (.loop (.seq (.seq (.reg [⟨(some p12), none, .mov (.t p4)⟩, ⟨(some p13), none, .mov (.t p0)⟩, ⟨(some p14), none, .len 1 (.t p13)⟩, ⟨(some p15), none, .bin .lss (.t p12) (.t p14)⟩] []) (.kill [p12, p13, p14] (.cond (.t p15) .skip (.exit 0)))) (.kill [p15] (.seq (.block 1 (.reg [⟨(some p18), none, .mov (.t p3)⟩, ⟨(some p19), none, .mov (.t p0)⟩, ⟨(some p20), none, .mov (.t p4)⟩, ⟨(some p21), none, .ias 1 (.t p19) (.t p20)⟩, ⟨(some p22), none, .ld none (.t p21)⟩, ⟨(some p23), none, .max (.t p18) [(.t p22)]⟩, ⟨(some p3), none, .mov (.t p23)⟩] [])) (.kill [p18, p19, p20, p21, p22, p23] (.reg [⟨(some p16), none, .mov (.t p4)⟩, ⟨(some p17), none, .bin .add (.t p16) (.c (.int .i64 1))⟩, ⟨(some p4), none, .mov (.t p17)⟩] [])))))))) (.kill [p0, p4, p15] (.seq (.reg [⟨(some p24), none, .mov (.t p3)⟩, ⟨(some p2), none, .mov (.t p24)⟩] []) .ret))))))))) }
def a58 : AFunc := { params := [p0], init := i20, results := [.tmp p2], body := (.seq (.reg [⟨(some p2), none, .mov (.c (.int .i64 0))⟩] []) (.kill [p2] (.seq (.reg [⟨(some p3), none, .mov (.c (.int .i64 0))⟩] []) (.seq (.seq (.reg [⟨(some p6), none, .mov (.t p0)⟩, ⟨(some p7), none, .len 1 (.t p6)⟩, ⟨(some p8), none, .mov (.c (.int .i64 0))⟩] []) (.kill [p0] (.block 0 (.loop (.seq (.reg [⟨(some p9), none, .bin .lss (.t p8) (.t p7)⟩] []) (.seq (.cond (.t p9) .skip (.exit 0)) (.kill [p9] (.seq (.block 1 (.seq (.reg [⟨(some p10), none, .ias 1 (.t p6) (.t p8)⟩, ⟨(some p11), none, .ld none (.t p10)⟩, ⟨(some p5), none, .mov (.t p11)⟩] []) (.kill [p10, p11] (.block 2 (.loop (.seq (.seq (.reg [⟨(some p12), none, .mov (.t p5)⟩, ⟨(some p13), none, .bin .neq (.t p12) (.c (.int .i64 0))⟩] []) (.kill [p12] (.cond (.t p13) .skip (.exit 2)))) (.kill [p13] (.block 3 (.reg [⟨(some p14), none, .mov (.t p5)⟩, ⟨(some p15), none, .mov (.t p3)⟩, ⟨(some p16), none, .mov (.t p5)⟩, ⟨(some p17), none, .bin .rem (.t p15) (.t p16)⟩, ⟨(some p3), none, .mov (.t p14)⟩, ⟨(some p5), none, .mov (.t p17)⟩] []))))))))) (.kill [p5, p13] (.reg [⟨(some p18), none, .bin .add (.t p8) (.c (.int .i64 1))⟩, ⟨(some p8), none, .mov (.t p18)⟩] [])))))))))) (.kill [p6, p7, p8, p9, p13] (.seq (.reg [⟨(some p19), none, .mov (.t p3)⟩, ⟨(some p2), none, .mov (.t p19)⟩] []) .ret)))))) }
def a59 : AFunc := { params := [p0, p1], init := i34, results := [.tmp p4, .tmp p5, .tmp p6], body := (.seq (.reg [⟨(some p3), none, .box (.t p1)⟩, ⟨(some p4), none, .mov (.c (.slice none 0 0))⟩, ⟨(some p5), none, .mov (.c (.bool false))⟩, ⟨(some p6), none, .mov (.c (.int .i64 0))⟩] []) (.kill [p1, p4, p5, p6] (.seq (.reg [⟨(some p12), none, .mov (.t p0)⟩, ⟨(some p13), none, .call (.c (.func (.func 46) #[] #[])) [(.t p12), (.c (.bool false)), (.c (.slice none 0 0))]⟩, ⟨(some p11), none, .mov (.t p13)⟩, ⟨(some p14), none, .ext 0 (.t p11)⟩, ⟨(some p15), none, .ext 1 (.t p11)⟩, ⟨(some p7), none, .zero [(.pointer none)]⟩, ⟨none, none, .st 1 (.t p7) (.t p14)⟩, ⟨(some p8), none, .mov (.t p15)⟩] []) (.kill [p0, p11, p12, p13, p14, p15] (.seq (.seq (.reg [⟨(some p16), none, .mov (.t p8)⟩, ⟨(some p17), none, .bin .neq (.t p16) (.c (.int .i64 0))⟩] []) (.kill [p16] (.cond (.t p17) (.kill [p17] (.seq (.reg [⟨(some p18), none, .mov (.t p8)⟩, ⟨(some p4), none, .mov (.c (.slice none 0 0))⟩, ⟨(some p5), none, .mov (.c (.bool false))⟩, ⟨(some p6), none, .mov (.t p18)⟩] []) .ret)) .skip))) (.kill [p17] (.seq (.seq (.reg [⟨(some p19), none, .ld none (.t p3)⟩, ⟨(some p20), none, .bin .lss (.t p19) (.c (.int .i64 0))⟩, ⟨(some p21), none, .mov (.t p20)⟩, ⟨(some p22), (some (p21, false)), .ld none (.t p3)⟩, ⟨(some p23), (some (p21, false)), .bin .gtr (.t p22) (.c (.int .i64 12))⟩, ⟨(some p24), none, .pick (.t p21) (.c (.bool true)) (.t p23)⟩] []) (.kill [p19, p20, p21, p22, p23] (.cond (.t p24) (.kill [p24] (.seq (.reg [⟨(some p4), none, .mov (.c (.slice none 0 0))⟩, ⟨(some p5), none, .mov (.c (.bool false))⟩, ⟨(some p6), none, .mov (.c (.int .i64 1))⟩] []) .ret)) .skip))) (.kill [p24] (.seq (.reg [⟨(some p26), none, .ld none (.t p7)⟩, ⟨(some p27), none, .build [(.int .i64 0), (.int .i64 0), (.int .i64 0), (.int .i64 0)] []⟩, ⟨(some p28), none, .clos (.func 69) [] [(.t p7), (.t p3)]⟩, ⟨(some p29), none, .call (.c (.func (.func 51) #[] #[])) [(.t p26), (.t p27), (.t p28)]⟩, ⟨(some p25), none, .mov (.t p29)⟩, ⟨(some p30), none, .ext 0 (.t p25)⟩, ⟨(some p31), none, .ext 1 (.t p25)⟩, ⟨(some p9), none, .mov (.t p30)⟩, ⟨(some p10), none, .mov (.t p31)⟩] []) (.kill [p3, p7, p25, p26, p27, p28, p29, p30, p31] (.seq (.reg [⟨(some p32), none, .mov (.t p9)⟩, ⟨(some p33), none, .mov (.t p10)⟩, ⟨(some p4), none, .mov (.t p32)⟩, ⟨(some p5), none, .mov (.t p33)⟩, ⟨(some p6), none, .mov (.c (.int .i64 0))⟩] []) .ret))))))))))) }
def a61 : AFunc := { params := [p0, p1], init := i41, results := [.tmp p4], body := (.seq (.reg [⟨(some p2), none, .box (.t p0)⟩, ⟨(some p3), none, .box (.t p1)⟩, ⟨(some p4), none, .mov (.c (.bool false))⟩] []) (.kill [p0, p1, p4] (.seq (.reg [⟨(some p6), none, .clos (.func 72) [] [(.t p3)]⟩, ⟨(some p5), none, .mov (.t p6)⟩] []) (.kill [p6] (.seq (.reg [⟨(some p7), none, .mov (.t p5)⟩, ⟨(some p8), none, .fad 0 (.t p2)⟩, ⟨(some p9), none, .ld none (.t p8)⟩, ⟨(some p10), none, .call (.t p7) [(.t p9)]⟩, ⟨(some p11), none, .mov (.t p10)⟩, ⟨(some p12), (some (p11, true)), .mov (.t p5)⟩, ⟨(some p13), (some (p11, true)), .fad 1 (.t p2)⟩, ⟨(some p14), (some (p11, true)), .ld none (.t p13)⟩, ⟨(some p15), (some (p11, true)), .call (.t p12) [(.t p14)]⟩, ⟨(some p16), none, .pick (.t p11) (.t p15) (.c (.bool false))⟩, ⟨(some p17), none, .mov (.t p16)⟩, ⟨(some p18), (some (p17, true)), .fad 0 (.t p2)⟩, ⟨(some p19), (some (p17, true)), .ld none (.t p18)⟩, ⟨(some p20), (some (p17, true)), .fad 1 (.t p2)⟩, ⟨(some p21), (some (p17, true)), .ld none (.t p20)⟩, ⟨(some p22), (some (p17, true)), .bin .neq (.t p19) (.t p21)⟩, ⟨(some p23), none, .pick (.t p17) (.t p22) (.c (.bool false))⟩, ⟨(some p24), none, .mov (.t p23)⟩, ⟨(some p25), (some (p24, true)), .ld none (.t p3)⟩, ⟨(some p26), (some (p24, true)), .nilchk (.t p25)⟩, ⟨(some p27), (some (p24, true)), .fad 5 (.t p26)⟩, ⟨(some p28), (some (p24, true)), .ld none (.t p27)⟩, ⟨(some p29), (some (p24, true)), .un .not (.t p28)⟩, ⟨(some p30), (some (p24, true)), .mov (.t p29)⟩, ⟨(some p31), (some (p30, false)), .fad 0 (.t p2)⟩, ⟨(some p32), (some (p30, false)), .ld none (.t p31)⟩, ⟨(some p33), (some (p30, false)), .bin .neq (.t p32) (.c (.int .i64 (-1)))⟩, ⟨(some p34), (some (p30, false)), .mov (.t p33)⟩, ⟨(some p35), (some (p34, true)), .fad 1 (.t p2)⟩, ⟨(some p36), (some (p34, true)), .ld none (.t p35)⟩, ⟨(some p37), (some (p34, true)), .bin .neq (.t p36) (.c (.int .i64 (-1)))⟩, ⟨(some p38), (some (p30, false)), .pick (.t p34) (.t p37) (.c (.bool false))⟩, ⟨(some p39), (some (p24, true)), .pick (.t p30) (.c (.bool true)) (.t p38)⟩, ⟨(some p40), none, .pick (.t p24) (.t p39) (.c (.bool false))⟩, ⟨(some p4), none, .mov (.t p40)⟩] []) .ret))))) }
def a62 : AFunc := { params := [p0, p1, p2], init := i61, results := [.cell (some 4) p6], body := (.seq (.reg [⟨(some p3), none, .box (.t p0)⟩, ⟨(some p5), none, .box (.t p2)⟩, ⟨(some p6), none, .zero [(.int .i64 0), (.int .i64 0), (.int .i64 0), (.int .i64 0)]⟩] []) (.kill [p0, p2] (.seq (.block 0 (.seq (.reg [⟨(some p40), none, .fad 0 (.t p3)⟩, ⟨(some p41), none, .ld none (.t p40)⟩, ⟨(some p42), none, .bin .eql (.c (.int .i64 (-1))) (.t p41)⟩, ⟨(some p39), none, .mov (.t p42)⟩] []) (.kill [p40, p41, p42] (.cond (.t p39) (.kill [p39] (.reg [⟨(some p43), none, .fad 1 (.t p3)⟩, ⟨(some p44), none, .ld none (.t p43)⟩, ⟨(some p45), none, .mov (.t p1)⟩, ⟨(some p46), none, .fad 1 (.t p3)⟩, ⟨(some p47), none, .ld none (.t p46)⟩, ⟨(some p48), none, .nilchk (.t p45)⟩, ⟨(some p49), none, .fad 1 (.t p48)⟩, ⟨(some p50), none, .iad 4 1 (.t p49) (.t p47)⟩, ⟨(some p51), none, .ld none (.t p50)⟩, ⟨(some p52), none, .iad 4 1 (.t p5) (.t p44)⟩, ⟨none, none, .st 1 (.t p52) (.t p51)⟩] [])) (.kill [p39] (.seq (.reg [⟨(some p54), none, .fad 1 (.t p3)⟩, ⟨(some p55), none, .ld none (.t p54)⟩, ⟨(some p56), none, .bin .eql (.c (.int .i64 (-1))) (.t p55)⟩, ⟨(some p53), none, .mov (.t p56)⟩] []) (.kill [p54, p55, p56] (.cond (.t p53) (.kill [p53] (.reg [⟨(some p57), none, .fad 0 (.t p3)⟩, ⟨(some p58), none, .ld none (.t p57)⟩, ⟨(some p59), none, .iad 4 1 (.t p5) (.t p58)⟩, ⟨none, none, .st 1 (.t p59) (.c (.int .i64 0))⟩] [])) (.kill [p53] (.seq (.reg [⟨(some p8), none, .fad 0 (.t p3)⟩, ⟨(some p9), none, .ld none (.t p8)⟩, ⟨(some p10), none, .iad 4 1 (.t p5) (.t p9)⟩, ⟨(some p11), none, .ld none (.t p10)⟩, ⟨(some p12), none, .mov (.t p1)⟩, ⟨(some p13), none, .fad 1 (.t p3)⟩, ⟨(some p14), none, .ld none (.t p13)⟩, ⟨(some p15), none, .nilchk (.t p12)⟩, ⟨(some p16), none, .fad 1 (.t p15)⟩, ⟨(some p17), none, .iad 4 1 (.t p16) (.t p14)⟩, ⟨(some p18), none, .ld none (.t p17)⟩, ⟨(some p19), none, .fad 1 (.t p3)⟩, ⟨(some p20), none, .ld none (.t p19)⟩, ⟨(some p21), none, .iad 4 1 (.t p5) (.t p20)⟩, ⟨(some p22), none, .ld none (.t p21)⟩, ⟨(some p23), none, .bin .sub (.t p18) (.t p22)⟩, ⟨(some p24), none, .min (.t p11) [(.t p23)]⟩, ⟨(some p7), none, .mov (.t p24)⟩] []) (.kill [p1, p8, p9, p10, p11, p12, p13, p14, p15, p16, p17, p18, p19, p20, p21, p22, p23, p24] (.seq (.reg [⟨(some p25), none, .fad 0 (.t p3)⟩, ⟨(some p26), none, .ld none (.t p25)⟩, ⟨(some p27), none, .iad 4 1 (.t p5) (.t p26)⟩, ⟨(some p28), none, .ld none (.t p27)⟩, ⟨(some p29), none, .mov (.t p7)⟩, ⟨(some p30), none, .bin .sub (.t p28) (.t p29)⟩, ⟨(some p31), none, .iad 4 1 (.t p5) (.t p26)⟩, ⟨none, none, .st 1 (.t p31) (.t p30)⟩] []) (.kill [p25, p26, p27, p28, p29, p30, p31] (.reg [⟨(some p32), none, .fad 1 (.t p3)⟩, ⟨(some p33), none, .ld none (.t p32)⟩, ⟨(some p34), none, .iad 4 1 (.t p5) (.t p33)⟩, ⟨(some p35), none, .ld none (.t p34)⟩, ⟨(some p36), none, .mov (.t p7)⟩, ⟨(some p37), none, .bin .add (.t p35) (.t p36)⟩, ⟨(some p38), none, .iad 4 1 (.t p5) (.t p33)⟩, ⟨none, none, .st 1 (.t p38) (.t p37)⟩] [])))))))))))))) (.kill [p1, p3, p7, p32, p33, p34, p35, p36, p37, p38, p39, p43, p44, p45, p46, p47, p48, p49, p50, p51, p52, p53, p57, p58, p59] (.seq (.reg [⟨(some p60), none, .ld (some 4) (.t p5)⟩, ⟨none, none, .st 4 (.t p6) (.t p60)⟩] []) .ret))))) }
def a64 : AFunc := { params := [p0], init := i25, results := [.tmp p2], body := (.seq (.reg [⟨(some p2), none, .mov (.c (.int .i64 0))⟩] []) (.kill [p2] (.seq (.seq (.reg [⟨(some p5), none, .mov (.t p0)⟩, ⟨(some p6), none, .len 1 (.t p5)⟩, ⟨(some p7), none, .bin .lss (.t p6) (.c (.int .i64 1))⟩] []) (.kill [p5, p6] (.cond (.t p7) (.kill [p7] (.reg [⟨(some p8), none, .bad⟩, ⟨none, none, .bad⟩] [])) .skip))) (.kill [p7, p8] (.seq (.reg [⟨(some p9), none, .mov (.t p0)⟩, ⟨(some p10), none, .ias 1 (.t p9) (.c (.int .i64 0))⟩, ⟨(some p11), none, .ld none (.t p10)⟩, ⟨(some p3), none, .mov (.t p11)⟩] []) (.kill [p9, p10, p11] (.seq (.seq (.reg [⟨(some p4), none, .mov (.c (.int .i64 1))⟩] []) (.block 0 (.loop (.seq (.seq (.reg [⟨(some p12), none, .mov (.t p4)⟩, ⟨(some p13), none, .mov (.t p0)⟩, ⟨(some p14), none, .len 1 (.t p13)⟩, ⟨(some p15), none, .bin .lss (.t p12) (.t p14)⟩] []) (.kill [p12, p13, p14] (.cond (.t p15) .skip (.exit 0)))) (.kill [p15] (.seq (.block 1 (.reg [⟨(some p18), none, .mov (.t p3)⟩, ⟨(some p19), none, .mov (.t p0)⟩, ⟨(some p20), none, .mov (.t p4)⟩, ⟨(some p21), none, .ias 1 (.t p19) (.t p20)⟩, ⟨(some p22), none, .ld none (.t p21)⟩, ⟨(some p23), none, .min (.t p18) [(.t p22)]⟩, ⟨(some p3), none, .mov (.t p23)⟩] [])) (.kill [p18, p19, p20, p21, p22, p23] (.reg [⟨(some p16), none, .mov (.t p4)⟩, ⟨(some p17), none, .bin .add (.t p16) (.c (.int .i64 1))⟩, ⟨(some p4), none, .mov (.t p17)⟩] [])))))))) (.kill [p0, p4, p15] (.seq (.reg [⟨(some p24), none, .mov (.t p3)⟩, ⟨(some p2), none, .mov (.t p24)⟩] []) .ret))))))))) }
def a65 : AFunc := { params := [p0, p1, p2], init := i45, results := [], body := (.seq (.reg [⟨(some p4), none, .mov (.c (.int .i64 (-1)))⟩] []) (.block 0 (.loop (.seq (.seq (.reg [⟨(some p8), none, .mov (.t p4)⟩, ⟨(some p9), none, .ld none (.t p1)⟩, ⟨(some p10), none, .nilchk (.t p9)⟩, ⟨(some p11), none, .fad 0 (.t p10)⟩, ⟨(some p12), none, .ld none (.t p11)⟩, ⟨(some p13), none, .bin .lss (.t p8) (.t p12)⟩] []) (.kill [p8, p9, p10, p11, p12] (.cond (.t p13) .skip (.exit 0)))) (.kill [p13] (.seq (.block 1 (.seq (.reg [⟨(some p5), none, .mov (.c (.int .i64 (-1)))⟩] []) (.block 2 (.loop (.seq (.seq (.reg [⟨(some p16), none, .mov (.t p5)⟩, ⟨(some p17), none, .ld none (.t p1)⟩, ⟨(some p18), none, .nilchk (.t p17)⟩, ⟨(some p19), none, .fad 0 (.t p18)⟩, ⟨(some p20), none, .ld none (.t p19)⟩, ⟨(some p21), none, .bin .lss (.t p16) (.t p20)⟩] []) (.kill [p16, p17, p18, p19, p20] (.cond (.t p21) .skip (.exit 2)))) (.kill [p21] (.seq (.block 3 (.seq (.reg [⟨(some p24), none, .mov (.t p4)⟩, ⟨(some p25), none, .mov (.t p5)⟩, ⟨(some p26), none, .build [(.int .i64 0), (.int .i64 0)] [(0, 1, (.t p24)), (1, 1, (.t p25))]⟩, ⟨(some p6), none, .zero [(.int .i64 0), (.int .i64 0)]⟩, ⟨none, none, .st 2 (.t p6) (.t p26)⟩] []) (.kill [p24, p25, p26] (.seq (.seq (.reg [⟨(some p27), none, .ld (some 2) (.t p6)⟩, ⟨(some p28), none, .ld none (.t p1)⟩, ⟨(some p29), none, .call (.c (.func (.func 61) #[] #[])) [(.t p27), (.t p28)]⟩, ⟨(some p30), none, .un .not (.t p29)⟩] []) (.kill [p27, p28, p29] (.cond (.t p30) (.exit 3) .skip))) (.kill [p30] (.seq (.reg [⟨(some p31), none, .ld (some 2) (.t p6)⟩, ⟨(some p32), none, .ld none (.t p1)⟩, ⟨(some p33), none, .ld (some 4) (.t p2)⟩, ⟨(some p34), none, .call (.c (.func (.func 62) #[] #[])) [(.t p31), (.t p32), (.t p33)]⟩, ⟨(some p7), none, .zero [(.int .i64 0), (.int .i64 0), (.int .i64 0), (.int .i64 0)]⟩, ⟨none, none, .st 4 (.t p7) (.t p34)⟩] []) (.kill [p31, p32, p33, p34] (.seq (.reg [⟨(some p35), none, .ld (some 4) (.t p7)⟩, ⟨(some p36), none, .ld (some 4) (.t p2)⟩, ⟨(some p37), none, .eqs (.cells [.int, .int, .int, .int]) true (.t p35) (.t p36)⟩, ⟨(some p38), none, .mov (.t p37)⟩, ⟨(some p39), (some (p38, true)), .mov (.t p0)⟩, ⟨(some p40), (some (p38, true)), .ld (some 2) (.t p6)⟩, ⟨(some p41), (some (p38, true)), .ld (some 4) (.t p7)⟩, ⟨(some p42), (some (p38, true)), .call (.t p39) [(.t p40), (.t p41)]⟩, ⟨(some p43), (some (p38, true)), .un .not (.t p42)⟩, ⟨(some p44), none, .pick (.t p38) (.t p43) (.c (.bool false))⟩] []) (.kill [p6, p7, p35, p36, p37, p38, p39, p40, p41, p42, p43] (.cond (.t p44) .ret .skip)))))))))) (.kill [p44] (.reg [⟨(some p22), none, .mov (.t p5)⟩, ⟨(some p23), none, .bin .add (.t p22) (.c (.int .i64 1))⟩, ⟨(some p5), none, .mov (.t p23)⟩] []))))))))) (.kill [p5, p21, p30] (.reg [⟨(some p14), none, .mov (.t p4)⟩, ⟨(some p15), none, .bin .add (.t p14) (.c (.int .i64 1))⟩, ⟨(some p4), none, .mov (.t p15)⟩] [])))))))) }
def a66 : AFunc := { params := [p0, p1, p2], init := i66, results := [.tmp p6, .cell (some 4) p7, .tmp p8], body := (.seq (.reg [⟨(some p4), none, .box (.t p1)⟩, ⟨(some p6), none, .mov (.c (.map none))⟩, ⟨(some p7), none, .zero [(.int .i64 0), (.int .i64 0), (.int .i64 0), (.int .i64 0)]⟩, ⟨(some p8), none, .mov (.c (.bool false))⟩] []) (.kill [p1, p6, p8] (.kill [] (.seq (.reg [⟨(some p18), none, .mkmap⟩, ⟨(some p19), none, .ld (some 4) (.t p4)⟩, ⟨(some p20), none, .build [(.int .i64 0), (.int .i64 0), (.int .i64 0), (.int .i64 0), (.int .i64 0), (.int .i64 0), (.int .i64 0)] []⟩, ⟨none, none, .mset [.int, .int, .int, .int] (.t p18) (.t p19) (.t p20)⟩, ⟨(some p21), none, .mov (.t p18)⟩, ⟨(some p9), none, .zero [(.map none)]⟩, ⟨none, none, .st 1 (.t p9) (.t p21)⟩] []) (.kill [p18, p19, p20, p21] (.seq (.reg [⟨(some p22), none, .ld (some 4) (.t p4)⟩, ⟨(some p23), none, .bslice 1 4 [(.int .i64 0), (.int .i64 0), (.int .i64 0), (.int .i64 0)] [(0, 4, (.t p22))]⟩, ⟨(some p10), none, .zero [(.slice none 0 0)]⟩, ⟨none, none, .st 1 (.t p10) (.t p23)⟩] []) (.kill [p4, p22, p23] (.seq (.reg [⟨(some p11), none, .zero [(.int .i64 0), (.int .i64 0), (.int .i64 0), (.int .i64 0)]⟩] []) (.seq (.reg [⟨(some p12), none, .mov (.c (.bool false))⟩] []) (.seq .skip (.seq (.block 0 (.loop (.seq (.seq (.reg [⟨(some p24), none, .ld none (.t p10)⟩, ⟨(some p25), none, .len 1 (.t p24)⟩, ⟨(some p26), none, .bin .gtr (.t p25) (.c (.int .i64 0))⟩] []) (.kill [p24, p25] (.cond (.t p26) .skip (.exit 0)))) (.kill [p26] (.block 1 (.seq (.reg [⟨(some p27), none, .ld none (.t p10)⟩, ⟨(some p28), none, .ias 4 (.t p27) (.c (.int .i64 0))⟩, ⟨(some p29), none, .ld (some 4) (.t p28)⟩, ⟨(some p13), none, .zero [(.int .i64 0), (.int .i64 0), (.int .i64 0), (.int .i64 0)]⟩, ⟨none, none, .st 4 (.t p13) (.t p29)⟩] []) (.kill [p27, p28, p29] (.seq (.reg [⟨(some p30), none, .ld none (.t p10)⟩, ⟨(some p31), none, .slsl 4 (.t p30) (some (.c (.int .i64 1))) none none⟩, ⟨none, none, .st 1 (.t p10) (.t p31)⟩] []) (.kill [p30, p31] (.seq (.seq (.reg [⟨(some p32), none, .mov (.t p2)⟩, ⟨(some p33), none, .ld (some 4) (.t p13)⟩, ⟨(some p34), none, .call (.t p32) [(.t p33)]⟩] []) (.kill [p32, p33] (.cond (.t p34) (.kill [p34] (.seq (.reg [⟨(some p35), none, .ld (some 4) (.t p13)⟩, ⟨none, none, .st 4 (.t p11) (.t p35)⟩, ⟨(some p12), none, .mov (.c (.bool true))⟩] []) (.kill [p13, p35] (.exit 0)))) .skip))) (.kill [p34] (.seq (.reg [⟨(some p36), none, .mov (.t p0)⟩, ⟨(some p37), none, .ld (some 4) (.t p13)⟩, ⟨(some p38), none, .call (.c (.func (.func 47) #[] #[])) [(.t p36), (.t p37)]⟩] []) (.kill [p36, p37] (.block 2 (.rangeF (.t p38) [p39, p40] (.seq (.reg [⟨(some p14), none, .zero [(.int .i64 0), (.int .i64 0)]⟩, ⟨none, none, .st 2 (.t p14) (.t p39)⟩] []) (.reg [⟨(some p15), none, .zero [(.int .i64 0), (.int .i64 0), (.int .i64 0), (.int .i64 0)]⟩, ⟨none, none, .st 4 (.t p15) (.t p40)⟩] [])) (.block 3 (.seq (.reg [⟨(some p42), none, .ld none (.t p9)⟩, ⟨(some p43), none, .ld (some 4) (.t p15)⟩, ⟨(some p44), none, .look true [.int, .int, .int, .int] (.agg #[(.int .i64 0), (.int .i64 0), (.int .i64 0), (.int .i64 0), (.int .i64 0), (.int .i64 0), (.int .i64 0)]) (.t p42) (.t p43)⟩, ⟨(some p41), none, .mov (.t p44)⟩, ⟨(some p45), none, .ext 0 (.t p41)⟩, ⟨(some p46), none, .ext 1 (.t p41)⟩, ⟨(some p16), none, .zero [(.int .i64 0), (.int .i64 0), (.int .i64 0), (.int .i64 0), (.int .i64 0), (.int .i64 0), (.int .i64 0)]⟩, ⟨none, none, .st 7 (.t p16) (.t p45)⟩, ⟨(some p17), none, .mov (.t p46)⟩] []) (.seq (.reg [⟨(some p47), none, .mov (.t p17)⟩, ⟨(some p48), none, .un .not (.t p47)⟩] []) (.cond (.t p48) (.seq (.reg [⟨(some p49), none, .ld none (.t p9)⟩, ⟨(some p50), none, .ld (some 4) (.t p15)⟩, ⟨(some p51), none, .ld (some 4) (.t p13)⟩, ⟨(some p52), none, .ld (some 2) (.t p14)⟩, ⟨(some p53), none, .ld none (.t p9)⟩, ⟨(some p54), none, .ld (some 4) (.t p13)⟩, ⟨(some p55), none, .look false [.int, .int, .int, .int] (.agg #[(.int .i64 0), (.int .i64 0), (.int .i64 0), (.int .i64 0), (.int .i64 0), (.int .i64 0), (.int .i64 0)]) (.t p53) (.t p54)⟩, ⟨(some p56), none, .fld none 6 (.t p55)⟩, ⟨(some p57), none, .bin .add (.t p56) (.c (.int .i64 1))⟩, ⟨(some p58), none, .build [(.int .i64 0), (.int .i64 0), (.int .i64 0), (.int .i64 0), (.int .i64 0), (.int .i64 0), (.int .i64 0)] [(0, 4, (.t p51)), (4, 2, (.t p52)), (6, 1, (.t p57))]⟩, ⟨none, none, .mset [.int, .int, .int, .int] (.t p49) (.t p50) (.t p58)⟩] []) (.reg [⟨(some p59), none, .ld none (.t p10)⟩, ⟨(some p60), none, .ld (some 4) (.t p15)⟩, ⟨(some p61), none, .bslice 1 4 [(.int .i64 0), (.int .i64 0), (.int .i64 0), (.int .i64 0)] [(0, 4, (.t p60))]⟩, ⟨(some p62), none, .app 4 (.t p59) (.t p61)⟩, ⟨none, none, .st 1 (.t p10) (.t p62)⟩] [])) .skip))))))))))))))))))) (.kill [p0, p2, p10, p14, p15, p16, p17, p26, p39, p40, p41, p42, p43, p44, p45, p46, p47, p48, p49, p50, p51, p52, p53, p54, p55, p56, p57, p58, p59, p60, p61, p62] (.seq (.reg [⟨(some p63), none, .ld none (.t p9)⟩, ⟨(some p64), none, .ld (some 4) (.t p11)⟩, ⟨(some p65), none, .mov (.t p12)⟩, ⟨(some p6), none, .mov (.t p63)⟩, ⟨none, none, .st 4 (.t p7) (.t p64)⟩, ⟨(some p8), none, .mov (.t p65)⟩] []) .ret))))))))))))) }
def a67 : AFunc := { params := [p0], init := i28, results := [], body := (.seq (.reg [⟨(some p4), none, .mov (.t p0)⟩, ⟨(some p5), none, .len 1 (.t p4)⟩, ⟨(some p6), none, .bin .sub (.t p5) (.c (.int .i64 1))⟩, ⟨(some p2), none, .mov (.c (.int .i64 0))⟩, ⟨(some p3), none, .mov (.t p6)⟩] []) (.kill [p4, p5, p6] (.block 0 (.loop (.seq (.seq (.reg [⟨(some p7), none, .mov (.t p2)⟩, ⟨(some p8), none, .mov (.t p3)⟩, ⟨(some p9), none, .bin .lss (.t p7) (.t p8)⟩] []) (.kill [p7, p8] (.cond (.t p9) .skip (.exit 0)))) (.kill [p9] (.seq (.block 1 (.reg [⟨(some p14), none, .mov (.t p0)⟩, ⟨(some p15), none, .mov (.t p2)⟩, ⟨(some p16), none, .mov (.t p0)⟩, ⟨(some p17), none, .mov (.t p3)⟩, ⟨(some p18), none, .mov (.t p0)⟩, ⟨(some p19), none, .mov (.t p3)⟩, ⟨(some p20), none, .ias 2 (.t p18) (.t p19)⟩, ⟨(some p21), none, .ld (some 2) (.t p20)⟩, ⟨(some p22), none, .mov (.t p0)⟩, ⟨(some p23), none, .mov (.t p2)⟩, ⟨(some p24), none, .ias 2 (.t p22) (.t p23)⟩, ⟨(some p25), none, .ld (some 2) (.t p24)⟩, ⟨(some p26), none, .ias 2 (.t p14) (.t p15)⟩, ⟨none, none, .st 2 (.t p26) (.t p21)⟩, ⟨(some p27), none, .ias 2 (.t p16) (.t p17)⟩, ⟨none, none, .st 2 (.t p27) (.t p25)⟩] [])) (.kill [p14, p15, p16, p17, p18, p19, p20, p21, p22, p23, p24, p25, p26, p27] (.reg [⟨(some p10), none, .mov (.t p2)⟩, ⟨(some p11), none, .bin .add (.t p10) (.c (.int .i64 1))⟩, ⟨(some p12), none, .mov (.t p3)⟩, ⟨(some p13), none, .bin .sub (.t p12) (.c (.int .i64 1))⟩, ⟨(some p2), none, .mov (.t p11)⟩, ⟨(some p3), none, .mov (.t p13)⟩] []))))))))) }
def a68 : AFunc := { params := [p0, p1], init := i34, results := [.cell (some 2) p4], body := (.seq (.reg [⟨(some p2), none, .box (.t p0)⟩, ⟨(some p3), none, .box (.t p1)⟩, ⟨(some p4), none, .zero [(.int .i64 0), (.int .i64 0)]⟩] []) (.kill [p0, p1] (.seq (.reg [⟨(some p6), none, .fad 6 (.t p2)⟩, ⟨(some p7), none, .ld none (.t p6)⟩, ⟨(some p8), none, .bin .sub (.c (.int .i64 1)) (.t p7)⟩, ⟨(some p5), none, .mov (.t p8)⟩] []) (.kill [p6, p7, p8] (.seq (.block 0 (.seq (.reg [⟨(some p10), none, .mov (.t p5)⟩, ⟨(some p11), none, .iad 4 1 (.t p3) (.t p10)⟩, ⟨(some p12), none, .ld none (.t p11)⟩, ⟨(some p13), none, .mov (.t p5)⟩, ⟨(some p14), none, .fad 0 (.t p2)⟩, ⟨(some p15), none, .fad 1 (.t p14)⟩, ⟨(some p16), none, .iad 4 1 (.t p15) (.t p13)⟩, ⟨(some p17), none, .ld none (.t p16)⟩, ⟨(some p18), none, .bin .eql (.t p12) (.t p17)⟩, ⟨(some p9), none, .mov (.t p18)⟩] []) (.kill [p10, p11, p12, p13, p14, p15, p16, p17, p18] (.cond (.t p9) (.kill [p9] (.seq (.reg [⟨(some p19), none, .mov (.t p5)⟩, ⟨(some p20), none, .build [(.int .i64 0), (.int .i64 0)] [(0, 1, (.t p19)), (1, 1, (.c (.int .i64 (-1))))]⟩, ⟨none, none, .st 2 (.t p4) (.t p20)⟩] []) .ret)) (.kill [p9] (.seq (.reg [⟨(some p22), none, .fad 6 (.t p2)⟩, ⟨(some p23), none, .ld none (.t p22)⟩, ⟨(some p24), none, .iad 4 1 (.t p3) (.t p23)⟩, ⟨(some p25), none, .ld none (.t p24)⟩, ⟨(some p26), none, .bin .eql (.t p25) (.c (.int .i64 0))⟩, ⟨(some p21), none, .mov (.t p26)⟩] []) (.kill [p3, p22, p23, p24, p25, p26] (.cond (.t p21) (.kill [p21] (.seq (.reg [⟨(some p27), none, .fad 6 (.t p2)⟩, ⟨(some p28), none, .ld none (.t p27)⟩, ⟨(some p29), none, .build [(.int .i64 0), (.int .i64 0)] [(0, 1, (.c (.int .i64 (-1)))), (1, 1, (.t p28))]⟩, ⟨none, none, .st 2 (.t p4) (.t p29)⟩] []) .ret)) .skip)))))))) (.kill [p9, p21] (.seq (.reg [⟨(some p30), none, .fad 6 (.t p2)⟩, ⟨(some p31), none, .ld none (.t p30)⟩, ⟨(some p32), none, .mov (.t p5)⟩, ⟨(some p33), none, .build [(.int .i64 0), (.int .i64 0)] [(0, 1, (.t p31)), (1, 1, (.t p32))]⟩, ⟨none, none, .st 2 (.t p4) (.t p33)⟩] []) .ret))))))) }
def a69 : AFunc := { params := [p0, p1, p2], init := i12, results := [.tmp p4], body := (.seq (.reg [⟨(some p3), none, .box (.t p0)⟩, ⟨(some p4), none, .mov (.c (.bool false))⟩] []) (.kill [p0, p4] (.seq (.reg [⟨(some p5), none, .ld none (.t p1)⟩, ⟨(some p6), none, .nilchk (.t p5)⟩, ⟨(some p7), none, .fad 0 (.t p6)⟩, ⟨(some p8), none, .ld none (.t p7)⟩, ⟨(some p9), none, .slarr 4 1 (.t p3) none (some (.t p8)) none⟩, ⟨(some p10), none, .ld none (.t p2)⟩, ⟨(some p11), none, .call (.c (.func (.func 70) #[] #[])) [(.t p9), (.t p10)]⟩, ⟨(some p4), none, .mov (.t p11)⟩] []) .ret))) }
def a70 : AFunc := { params := [p0, p1], init := i9, results := [.tmp p4], body := (.seq (.reg [⟨(some p4), none, .mov (.c (.bool false))⟩] []) (.kill [p4] (.seq (.reg [⟨(some p5), none, .mov (.t p0)⟩, ⟨(some p6), none, .mov (.t p1)⟩, ⟨(some p7), none, .call (.c (.func (.func 73) #[] #[])) [(.t p5), (.t p6)]⟩, ⟨(some p8), none, .bin .geq (.t p7) (.c (.int .i64 0))⟩, ⟨(some p4), none, .mov (.t p8)⟩] []) .ret))) }
def a72 : AFunc := { params := [p0, p1], init := i14, results := [.tmp p3], body := (.seq (.reg [⟨(some p3), none, .mov (.c (.bool false))⟩] []) (.kill [p3] (.seq (.reg [⟨(some p4), none, .mov (.t p0)⟩, ⟨(some p5), none, .bin .geq (.t p4) (.c (.int .i64 (-1)))⟩, ⟨(some p6), none, .mov (.t p5)⟩, ⟨(some p7), (some (p6, true)), .mov (.t p0)⟩, ⟨(some p8), (some (p6, true)), .ld none (.t p1)⟩, ⟨(some p9), (some (p6, true)), .nilchk (.t p8)⟩, ⟨(some p10), (some (p6, true)), .fad 0 (.t p9)⟩, ⟨(some p11), (some (p6, true)), .ld none (.t p10)⟩, ⟨(some p12), (some (p6, true)), .bin .lss (.t p7) (.t p11)⟩, ⟨(some p13), none, .pick (.t p6) (.t p12) (.c (.bool false))⟩, ⟨(some p3), none, .mov (.t p13)⟩] []) .ret))) }
def a73 : AFunc := { params := [p0, p1], init := i19, results := [.tmp p4], body := (.seq (.reg [⟨(some p4), none, .mov (.c (.int .i64 0))⟩] []) (.kill [p4] (.seq (.seq (.reg [⟨(some p6), none, .mov (.t p0)⟩, ⟨(some p7), none, .len 1 (.t p6)⟩, ⟨(some p8), none, .mov (.c (.int .i64 0))⟩] []) (.kill [p6] (.block 0 (.loop (.seq (.reg [⟨(some p9), none, .bin .lss (.t p8) (.t p7)⟩] []) (.seq (.cond (.t p9) .skip (.exit 0)) (.kill [p9] (.seq (.block 1 (.seq (.reg [⟨(some p10), none, .mov (.t p8)⟩, ⟨(some p5), none, .mov (.t p10)⟩] []) (.kill [p10] (.seq (.reg [⟨(some p11), none, .mov (.t p1)⟩, ⟨(some p12), none, .mov (.t p0)⟩, ⟨(some p13), none, .mov (.t p5)⟩, ⟨(some p14), none, .ias 1 (.t p12) (.t p13)⟩, ⟨(some p15), none, .ld none (.t p14)⟩, ⟨(some p16), none, .bin .eql (.t p11) (.t p15)⟩] []) (.kill [p11, p12, p13, p14, p15] (.cond (.t p16) (.kill [p16] (.seq (.reg [⟨(some p17), none, .mov (.t p5)⟩, ⟨(some p4), none, .mov (.t p17)⟩] []) .ret)) .skip)))))) (.kill [p16] (.reg [⟨(some p18), none, .bin .add (.t p8) (.c (.int .i64 1))⟩, ⟨(some p8), none, .mov (.t p18)⟩] [])))))))))) (.kill [p0, p1, p7, p8, p9] (.seq (.reg [⟨(some p4), none, .mov (.c (.int .i64 (-1)))⟩] []) .ret))))) }
def tbl : Tr AFunc := (.nd none (.nd none (.nd none (.nd (some a7) (.nd none (.nd (some a31) (.nd none .lf .lf) .lf) (.nd (some a47) .lf .lf)) (.nd none (.nd none (.nd none .lf .lf) .lf) (.nd (some a55) .lf .lf))) (.nd none (.nd none (.nd none (.nd (some a67) .lf .lf) .lf) (.nd (some a51) .lf .lf)) (.nd none (.nd (some a43) .lf .lf) (.nd (some a59) .lf .lf)))) (.nd none (.nd none (.nd none (.nd (some a33) (.nd (some a65) .lf .lf) .lf) (.nd none .lf .lf)) (.nd (some a25) (.nd none (.nd (some a73) .lf .lf) .lf) (.nd (some a57) .lf .lf))) (.nd none (.nd none (.nd none (.nd (some a69) .lf .lf) .lf) (.nd (some a53) .lf .lf)) (.nd none (.nd none .lf .lf) (.nd (some a61) .lf .lf))))) (.nd none (.nd none (.nd none (.nd none (.nd none (.nd (some a64) .lf .lf) .lf) (.nd (some a48) .lf .lf)) (.nd none (.nd none (.nd (some a72) .lf .lf) .lf) (.nd none .lf .lf))) (.nd none (.nd (some a20) (.nd none (.nd (some a68) .lf .lf) .lf) (.nd (some a52) .lf .lf)) (.nd none (.nd none .lf .lf) (.nd none .lf .lf)))) (.nd none (.nd none (.nd (some a18) (.nd none (.nd (some a66) .lf .lf) .lf) (.nd none .lf .lf)) (.nd (some a26) (.nd none .lf .lf) (.nd (some a58) .lf .lf))) (.nd none (.nd (some a22) (.nd none (.nd (some a70) .lf .lf) .lf) (.nd (some a54) .lf .lf)) (.nd (some a30) (.nd (some a46) .lf .lf) (.nd (some a62) .lf .lf))))))
end
end Go.Ab.Jug

namespace Go.Ab.Jug
set_option maxRecDepth 100000
open Go.Ab.V
end Go.Ab.Jug

namespace Go.Ab.Jug
set_option maxRecDepth 1000000
noncomputable section
def cfg0 : Cfg := { fn := fun f => Tr.get tbl f, orc := fun _ _ => none, pick := fun _ => 0 }
theorem fit : Tr.allB (fitB Go.Proofs.Try.prog) tbl (fun n => n) = true := by decide +kernel
theorem tab0 : TabOK Go.Proofs.Try.prog cfg0 := tabOK (t := tbl) (fun _ _ h => h) fit
theorem mixed : Go.Proofs.Try.prog.follows .mixedOrders = true := by decide +kernel
end
end Go.Ab.Jug

namespace Go.Ab.Jug
open Go.Ab.V
set_option maxRecDepth 100000
noncomputable section
def cfg : Cfg := withOrc cfg0 20 (.bool true)
end
theorem no_orc (f : Nat) (h : f ≠ 20) (l : List Value) : cfg.orc f l = none := by
  have : Nat.beq f 20 = false := by cases hb : Nat.beq f 20 with
    | false => rfl
    | true => exact absurd (Nat.eq_of_beq_eq_true hb) h
  show (bif Nat.beq f 20 && l.isEmpty then some (Value.bool true) else none) = none
  rw [this]; rfl

def maxL (a : List Int) : Int := a.foldl max (a.headD 0)
def minL (a : List Int) : Int := a.foldl min (a.headD 0)

theorem Max_ok (a : List Int) (h0 : 0 < a.length) (hl : a.length ≤ 9223372036854775807) : VCall cfg 57 [sl1 a] [] [] (vi (maxL a)) [] := by
  have hh : a[0] = a.headD 0 := by cases a <;> simp at h0 ⊢
  (refine VCall.mk (fn := a57) rfl rfl rfl ?_; simp only [a57, inV, mkB, nmsL, PT.set])
  (repeat (first | refine VC.seq ?_ | refine VC.block ?_ | refine VC.kill ?_ | refine VC.skip ?_ | refine VC.exit ?_ | refine VC.regA ?_ | refine VC.condT ?_ | refine VC.condF ?_))
  refine VC.loopG (fun (i : Nat) => ⟨inV [p0, p3, p4] [sl1 a, vi ((a.take i).foldl max a[0]), vi i] .lf, .lf, [], none⟩) (fun n i => n = a.length - i ∧ 1 ≤ i ∧ i ≤ a.length) (x := 1) ?_ ⟨rfl, by omega, by omega⟩ ?_
  · (apply Go.Ab.V.G.weak; constructor <;> simp (config := {decide := true}) only [PT.Le, inV, mkB, PT.set, VSt.kill, VSt.adopt, VSt.alloc, PT.filt, PT.map, List.map_cons, List.map_nil, noref, norefB, deadB, deadV, nos, nm, nmL, nmB, nmE, Pa.eqb, cond_true, cond_false, Bool.not_true, Bool.not_false, Bool.and_true, Bool.true_and, nmL_vi, flV_len, flP_len, flV_nm, flV_ok, flV_pv, flP_map, drop_flP, drop_flV, putC_flV, eqV2, eqV3, bneT, bneF, decide_true, decide_false, frzL_vi, frzL_flV, nmE_ag, nmE_at, frzE_ag, frzE_at, ofAg_len, ofAt_len, atL_vi, nmL_map_p, frzL_map_p, okL_p, toPVs_p, repsZ, nmL_reps, putC_vi, get_flV0, get_flV1, Int.toNat_zero, Int.toNat_one, Int.reduceToNat, eqV_slice, eqV_ptr, eqV_func, nilS, nilP, nilF, nmL_append, true_or, or_true, and_self, true_and, and_true, Option.some.injEq, reduceCtorEq, false_or, or_false, VV.p.injEq, PV.at.injEq, Value.int.injEq, sl1, vi, bl1, vb, nilV]); cases a <;> simp at h0 ⊢
  rintro n i ⟨hn, h1, hi⟩
  simp only [inV, PT.set]
  (repeat (first | refine VC.seq ?_ | refine VC.block ?_ | refine VC.kill ?_ | refine VC.skip ?_ | refine VC.exit ?_ | refine VC.regA ?_ | refine VC.condT ?_ | refine VC.condF ?_))
  refine VC.condA ?_ ?_ <;> intro h <;> (simp only [decide_eq_true_eq, decide_eq_false_iff_not, bne_iff_ne, ne_eq, bne_eq_false_iff_eq, beq_iff_eq, beq_eq_false_iff_ne, Bool.not_eq_true', Bool.not_eq_false', Bool.and_eq_true, Bool.or_eq_true, Int.natCast_inj] at h)
  · have h : i < a.length := by omega
    (repeat (first | refine VC.seq ?_ | refine VC.block ?_ | refine VC.kill ?_ | refine VC.skip ?_ | refine VC.exit ?_ | refine VC.regA ?_ | refine VC.condT ?_ | refine VC.condF ?_))
    refine ⟨_, i + 1, ?_, ⟨rfl, by omega, by omega⟩, ?_⟩
    · omega
    · (apply Go.Ab.V.G.weak; constructor <;> simp (config := {decide := true}) only [PT.Le, inV, mkB, PT.set, VSt.kill, VSt.adopt, VSt.alloc, PT.filt, PT.map, List.map_cons, List.map_nil, noref, norefB, deadB, deadV, nos, nm, nmL, nmB, nmE, Pa.eqb, cond_true, cond_false, Bool.not_true, Bool.not_false, Bool.and_true, Bool.true_and, nmL_vi, flV_len, flP_len, flV_nm, flV_ok, flV_pv, flP_map, drop_flP, drop_flV, putC_flV, eqV2, eqV3, bneT, bneF, decide_true, decide_false, frzL_vi, frzL_flV, nmE_ag, nmE_at, frzE_ag, frzE_at, ofAg_len, ofAt_len, atL_vi, nmL_map_p, frzL_map_p, okL_p, toPVs_p, repsZ, nmL_reps, putC_vi, get_flV0, get_flV1, Int.toNat_zero, Int.toNat_one, Int.reduceToNat, eqV_slice, eqV_ptr, eqV_func, nilS, nilP, nilF, nmL_append, true_or, or_true, and_self, true_and, and_true, Option.some.injEq, reduceCtorEq, false_or, or_false, VV.p.injEq, PV.at.injEq, Value.int.injEq, sl1, vi, bl1, vb, nilV])
      rw [List.take_add_one, List.getElem?_eq_getElem h, List.foldl_append]; exact ⟨rfl, by omega⟩
  · (repeat (first | refine VC.seq ?_ | refine VC.block ?_ | refine VC.kill ?_ | refine VC.skip ?_ | refine VC.exit ?_ | refine VC.regA ?_ | refine VC.condT ?_ | refine VC.condF ?_))
    refine VC.ret (Fin.A ?_)
    rw [List.take_of_length_le (by omega), hh]; rfl
theorem Min_ok (a : List Int) (h0 : 0 < a.length) (hl : a.length ≤ 9223372036854775807) : VCall cfg 64 [sl1 a] [] [] (vi (minL a)) [] := by
  have hh : a[0] = a.headD 0 := by cases a <;> simp at h0 ⊢
  (refine VCall.mk (fn := a64) rfl rfl rfl ?_; simp only [a64, inV, mkB, nmsL, PT.set])
  (repeat (first | refine VC.seq ?_ | refine VC.block ?_ | refine VC.kill ?_ | refine VC.skip ?_ | refine VC.exit ?_ | refine VC.regA ?_ | refine VC.condT ?_ | refine VC.condF ?_))
  refine VC.loopG (fun (i : Nat) => ⟨inV [p0, p3, p4] [sl1 a, vi ((a.take i).foldl min a[0]), vi i] .lf, .lf, [], none⟩) (fun n i => n = a.length - i ∧ 1 ≤ i ∧ i ≤ a.length) (x := 1) ?_ ⟨rfl, by omega, by omega⟩ ?_
  · (apply Go.Ab.V.G.weak; constructor <;> simp (config := {decide := true}) only [PT.Le, inV, mkB, PT.set, VSt.kill, VSt.adopt, VSt.alloc, PT.filt, PT.map, List.map_cons, List.map_nil, noref, norefB, deadB, deadV, nos, nm, nmL, nmB, nmE, Pa.eqb, cond_true, cond_false, Bool.not_true, Bool.not_false, Bool.and_true, Bool.true_and, nmL_vi, flV_len, flP_len, flV_nm, flV_ok, flV_pv, flP_map, drop_flP, drop_flV, putC_flV, eqV2, eqV3, bneT, bneF, decide_true, decide_false, frzL_vi, frzL_flV, nmE_ag, nmE_at, frzE_ag, frzE_at, ofAg_len, ofAt_len, atL_vi, nmL_map_p, frzL_map_p, okL_p, toPVs_p, repsZ, nmL_reps, putC_vi, get_flV0, get_flV1, Int.toNat_zero, Int.toNat_one, Int.reduceToNat, eqV_slice, eqV_ptr, eqV_func, nilS, nilP, nilF, nmL_append, true_or, or_true, and_self, true_and, and_true, Option.some.injEq, reduceCtorEq, false_or, or_false, VV.p.injEq, PV.at.injEq, Value.int.injEq, sl1, vi, bl1, vb, nilV]); cases a <;> simp at h0 ⊢
  rintro n i ⟨hn, h1, hi⟩
  simp only [inV, PT.set]
  (repeat (first | refine VC.seq ?_ | refine VC.block ?_ | refine VC.kill ?_ | refine VC.skip ?_ | refine VC.exit ?_ | refine VC.regA ?_ | refine VC.condT ?_ | refine VC.condF ?_))
  refine VC.condA ?_ ?_ <;> intro h <;> (simp only [decide_eq_true_eq, decide_eq_false_iff_not, bne_iff_ne, ne_eq, bne_eq_false_iff_eq, beq_iff_eq, beq_eq_false_iff_ne, Bool.not_eq_true', Bool.not_eq_false', Bool.and_eq_true, Bool.or_eq_true, Int.natCast_inj] at h)
  · have h : i < a.length := by omega
    (repeat (first | refine VC.seq ?_ | refine VC.block ?_ | refine VC.kill ?_ | refine VC.skip ?_ | refine VC.exit ?_ | refine VC.regA ?_ | refine VC.condT ?_ | refine VC.condF ?_))
    refine ⟨_, i + 1, ?_, ⟨rfl, by omega, by omega⟩, ?_⟩
    · omega
    · (apply Go.Ab.V.G.weak; constructor <;> simp (config := {decide := true}) only [PT.Le, inV, mkB, PT.set, VSt.kill, VSt.adopt, VSt.alloc, PT.filt, PT.map, List.map_cons, List.map_nil, noref, norefB, deadB, deadV, nos, nm, nmL, nmB, nmE, Pa.eqb, cond_true, cond_false, Bool.not_true, Bool.not_false, Bool.and_true, Bool.true_and, nmL_vi, flV_len, flP_len, flV_nm, flV_ok, flV_pv, flP_map, drop_flP, drop_flV, putC_flV, eqV2, eqV3, bneT, bneF, decide_true, decide_false, frzL_vi, frzL_flV, nmE_ag, nmE_at, frzE_ag, frzE_at, ofAg_len, ofAt_len, atL_vi, nmL_map_p, frzL_map_p, okL_p, toPVs_p, repsZ, nmL_reps, putC_vi, get_flV0, get_flV1, Int.toNat_zero, Int.toNat_one, Int.reduceToNat, eqV_slice, eqV_ptr, eqV_func, nilS, nilP, nilF, nmL_append, true_or, or_true, and_self, true_and, and_true, Option.some.injEq, reduceCtorEq, false_or, or_false, VV.p.injEq, PV.at.injEq, Value.int.injEq, sl1, vi, bl1, vb, nilV])
      rw [List.take_add_one, List.getElem?_eq_getElem h, List.foldl_append]; exact ⟨rfl, by omega⟩
  · (repeat (first | refine VC.seq ?_ | refine VC.block ?_ | refine VC.kill ?_ | refine VC.skip ?_ | refine VC.exit ?_ | refine VC.regA ?_ | refine VC.condT ?_ | refine VC.condF ?_))
    refine VC.ret (Fin.A ?_)
    rw [List.take_of_length_le (by omega), hh]; rfl

def gcdL (a : List Int) : Nat := (a.map Int.toNat).foldl Nat.gcd 0
theorem gcdL_succ {a : List Int} {i : Nat} (h : i < a.length) : gcdL (a.take (i + 1)) = Nat.gcd (gcdL (a.take i)) a[i].toNat := by
  unfold gcdL; rw [take_map_succ h, List.foldl_append]; rfl
theorem gcd_step (x y : Nat) : Nat.gcd y (x % y) = Nat.gcd x y := by rw [Nat.gcd_comm y, ← Nat.gcd_rec, Nat.gcd_comm]
theorem divisor_ok (a : List Int) (hp : ∀ x ∈ a, 0 ≤ x) (hl : a.length ≤ 9223372036854775807) : VCall cfg 58 [sl1 a] [] [] (vi (gcdL a)) [] := by
  (refine VCall.mk (fn := a58) rfl rfl rfl ?_; simp only [a58, inV, mkB, nmsL, PT.set])
  (repeat (first | refine VC.seq ?_ | refine VC.block ?_ | refine VC.kill ?_ | refine VC.skip ?_ | refine VC.exit ?_ | refine VC.regA ?_ | refine VC.condT ?_ | refine VC.condF ?_))
  refine VC.loopG (fun (i : Nat) => ⟨inV [p3, p6, p7, p8] [vi (gcdL (a.take i)), sl1 a, vi a.length, vi i] .lf, .lf, [], none⟩) (fun n i => n = a.length - i ∧ i ≤ a.length) (x := 0) ?_ ⟨rfl, by omega⟩ ?_
  · (apply Go.Ab.V.G.weak; constructor <;> simp (config := {decide := true}) only [PT.Le, inV, mkB, PT.set, VSt.kill, VSt.adopt, VSt.alloc, PT.filt, PT.map, List.map_cons, List.map_nil, noref, norefB, deadB, deadV, nos, nm, nmL, nmB, nmE, Pa.eqb, cond_true, cond_false, Bool.not_true, Bool.not_false, Bool.and_true, Bool.true_and, nmL_vi, flV_len, flP_len, flV_nm, flV_ok, flV_pv, flP_map, drop_flP, drop_flV, putC_flV, eqV2, eqV3, bneT, bneF, decide_true, decide_false, frzL_vi, frzL_flV, nmE_ag, nmE_at, frzE_ag, frzE_at, ofAg_len, ofAt_len, atL_vi, nmL_map_p, frzL_map_p, okL_p, toPVs_p, repsZ, nmL_reps, putC_vi, get_flV0, get_flV1, Int.toNat_zero, Int.toNat_one, Int.reduceToNat, eqV_slice, eqV_ptr, eqV_func, nilS, nilP, nilF, nmL_append, true_or, or_true, and_self, true_and, and_true, Option.some.injEq, reduceCtorEq, false_or, or_false, VV.p.injEq, PV.at.injEq, Value.int.injEq, sl1, vi, bl1, vb, nilV]); rfl
  rintro n i ⟨hn, hi⟩
  simp only [inV, PT.set]
  (repeat (first | refine VC.seq ?_ | refine VC.block ?_ | refine VC.kill ?_ | refine VC.skip ?_ | refine VC.exit ?_ | refine VC.regA ?_ | refine VC.condT ?_ | refine VC.condF ?_))
  refine VC.condA ?_ ?_ <;> intro h <;> (simp only [decide_eq_true_eq, decide_eq_false_iff_not, bne_iff_ne, ne_eq, bne_eq_false_iff_eq, beq_iff_eq, beq_eq_false_iff_ne, Bool.not_eq_true', Bool.not_eq_false', Bool.and_eq_true, Bool.or_eq_true, Int.natCast_inj] at h)
  · have h : i < a.length := by omega
    have ha0 := hp _ (List.getElem_mem h)
    (repeat (first | refine VC.seq ?_ | refine VC.block ?_ | refine VC.kill ?_ | refine VC.skip ?_ | refine VC.exit ?_ | refine VC.regA ?_ | refine VC.condT ?_ | refine VC.condF ?_))
    refine VC.loopG (fun q : Nat × Nat => ⟨inV [p3, p5, p6, p7, p8] [vi q.1, vi q.2, sl1 a, vi a.length, vi i] .lf, .lf, [], none⟩) (fun n q => n = q.2 ∧ Nat.gcd q.1 q.2 = gcdL (a.take (i + 1))) (x := (gcdL (a.take i), a[i].toNat)) ?_ ⟨rfl, (gcdL_succ h).symm⟩ ?_
    · (apply Go.Ab.V.G.weak; constructor <;> simp (config := {decide := true}) only [PT.Le, inV, mkB, PT.set, VSt.kill, VSt.adopt, VSt.alloc, PT.filt, PT.map, List.map_cons, List.map_nil, noref, norefB, deadB, deadV, nos, nm, nmL, nmB, nmE, Pa.eqb, cond_true, cond_false, Bool.not_true, Bool.not_false, Bool.and_true, Bool.true_and, nmL_vi, flV_len, flP_len, flV_nm, flV_ok, flV_pv, flP_map, drop_flP, drop_flV, putC_flV, eqV2, eqV3, bneT, bneF, decide_true, decide_false, frzL_vi, frzL_flV, nmE_ag, nmE_at, frzE_ag, frzE_at, ofAg_len, ofAt_len, atL_vi, nmL_map_p, frzL_map_p, okL_p, toPVs_p, repsZ, nmL_reps, putC_vi, get_flV0, get_flV1, Int.toNat_zero, Int.toNat_one, Int.reduceToNat, eqV_slice, eqV_ptr, eqV_func, nilS, nilP, nilF, nmL_append, true_or, or_true, and_self, true_and, and_true, Option.some.injEq, reduceCtorEq, false_or, or_false, VV.p.injEq, PV.at.injEq, Value.int.injEq, sl1, vi, bl1, vb, nilV]); omega
    rintro n ⟨x, y⟩ ⟨hn2, he⟩
    simp only at hn2 he
    simp only [inV, PT.set]
    (repeat (first | refine VC.seq ?_ | refine VC.block ?_ | refine VC.kill ?_ | refine VC.skip ?_ | refine VC.exit ?_ | refine VC.regA ?_ | refine VC.condT ?_ | refine VC.condF ?_))
    refine VC.condA ?_ ?_ <;> intro h2 <;> (simp only [decide_eq_true_eq, decide_eq_false_iff_not, bne_iff_ne, ne_eq, bne_eq_false_iff_eq, beq_iff_eq, beq_eq_false_iff_ne, Bool.not_eq_true', Bool.not_eq_false', Bool.and_eq_true, Bool.or_eq_true, Int.natCast_inj] at h2)
    · (repeat (first | refine VC.seq ?_ | refine VC.block ?_ | refine VC.kill ?_ | refine VC.skip ?_ | refine VC.exit ?_ | refine VC.regA ?_ | refine VC.condT ?_ | refine VC.condF ?_))
      refine ⟨_, (y, x % y), ?_, ⟨rfl, (gcd_step x y).trans he⟩, ?_⟩
      · rw [hn2]; exact Nat.mod_lt _ (by omega)
      · (apply Go.Ab.V.G.weak; constructor <;> simp (config := {decide := true}) only [PT.Le, inV, mkB, PT.set, VSt.kill, VSt.adopt, VSt.alloc, PT.filt, PT.map, List.map_cons, List.map_nil, noref, norefB, deadB, deadV, nos, nm, nmL, nmB, nmE, Pa.eqb, cond_true, cond_false, Bool.not_true, Bool.not_false, Bool.and_true, Bool.true_and, nmL_vi, flV_len, flP_len, flV_nm, flV_ok, flV_pv, flP_map, drop_flP, drop_flV, putC_flV, eqV2, eqV3, bneT, bneF, decide_true, decide_false, frzL_vi, frzL_flV, nmE_ag, nmE_at, frzE_ag, frzE_at, ofAg_len, ofAt_len, atL_vi, nmL_map_p, frzL_map_p, okL_p, toPVs_p, repsZ, nmL_reps, putC_vi, get_flV0, get_flV1, Int.toNat_zero, Int.toNat_one, Int.reduceToNat, eqV_slice, eqV_ptr, eqV_func, nilS, nilP, nilF, nmL_append, true_or, or_true, and_self, true_and, and_true, Option.some.injEq, reduceCtorEq, false_or, or_false, VV.p.injEq, PV.at.injEq, Value.int.injEq, sl1, vi, bl1, vb, nilV]); omega
    · have hy0 : y = 0 := by omega
      subst hy0
      (repeat (first | refine VC.seq ?_ | refine VC.block ?_ | refine VC.kill ?_ | refine VC.skip ?_ | refine VC.exit ?_ | refine VC.regA ?_ | refine VC.condT ?_ | refine VC.condF ?_))
      refine ⟨_, i + 1, ?_, ⟨rfl, by omega⟩, ?_⟩
      · omega
      · (apply Go.Ab.V.G.weak; constructor <;> simp (config := {decide := true}) only [PT.Le, inV, mkB, PT.set, VSt.kill, VSt.adopt, VSt.alloc, PT.filt, PT.map, List.map_cons, List.map_nil, noref, norefB, deadB, deadV, nos, nm, nmL, nmB, nmE, Pa.eqb, cond_true, cond_false, Bool.not_true, Bool.not_false, Bool.and_true, Bool.true_and, nmL_vi, flV_len, flP_len, flV_nm, flV_ok, flV_pv, flP_map, drop_flP, drop_flV, putC_flV, eqV2, eqV3, bneT, bneF, decide_true, decide_false, frzL_vi, frzL_flV, nmE_ag, nmE_at, frzE_ag, frzE_at, ofAg_len, ofAt_len, atL_vi, nmL_map_p, frzL_map_p, okL_p, toPVs_p, repsZ, nmL_reps, putC_vi, get_flV0, get_flV1, Int.toNat_zero, Int.toNat_one, Int.reduceToNat, eqV_slice, eqV_ptr, eqV_func, nilS, nilP, nilF, nmL_append, true_or, or_true, and_self, true_and, and_true, Option.some.injEq, reduceCtorEq, false_or, or_false, VV.p.injEq, PV.at.injEq, Value.int.injEq, sl1, vi, bl1, vb, nilV]); simp only [Nat.gcd_zero_right] at he; omega
  · (repeat (first | refine VC.seq ?_ | refine VC.block ?_ | refine VC.kill ?_ | refine VC.skip ?_ | refine VC.exit ?_ | refine VC.regA ?_ | refine VC.condT ?_ | refine VC.condF ?_))
    refine VC.ret (Fin.A ?_)
    rw [List.take_of_length_le (by omega)]; rfl

def okJ (a : List Int) : Prop := 1 ≤ a.length ∧ a.length ≤ 4 ∧ 1 ≤ minL a ∧ maxL a ≤ 12
instance (a : List Int) : Decidable (okJ a) := by unfold okJ; infer_instance
theorem Check_ok (a : List Int) (hl : a.length ≤ 9223372036854775807) : VCall cfg 43 [sl1 a] [] [] (vi (if okJ a then 0 else 20)) [] := by
  (refine VCall.mk (fn := a43) rfl rfl rfl ?_; simp only [a43, inV, mkB, nmsL, PT.set])
  by_cases h1 : a.length < 1
  · (repeat (first | refine VC.seq ?_ | refine VC.block ?_ | refine VC.kill ?_ | refine VC.skip ?_ | refine VC.exit ?_ | refine VC.regA ?_ | refine VC.condT ?_ | refine VC.condF ?_))
    refine VC.ret (Fin.A ?_); rw [if_neg (by unfold okJ; omega)]; rfl
  by_cases h2 : 4 < a.length
  · (repeat (first | refine VC.seq ?_ | refine VC.block ?_ | refine VC.kill ?_ | refine VC.skip ?_ | refine VC.exit ?_ | refine VC.regA ?_ | refine VC.condT ?_ | refine VC.condF ?_))
    refine VC.ret (Fin.A ?_); rw [if_neg (by unfold okJ; omega)]; rfl
  (repeat (first | refine VC.seq ?_ | refine VC.block ?_ | refine VC.kill ?_ | refine VC.skip ?_ | refine VC.exit ?_ | refine VC.regA ?_ | refine VC.condT ?_ | refine VC.condF ?_))
  refine VC.regCA ?_
  refine VO.call0A (no_orc 64 (by decide)) (Min_ok a (by omega) hl) ?_
  by_cases h3 : minL a < 1
  · refine VO.endA ?_
    (repeat (first | refine VC.seq ?_ | refine VC.block ?_ | refine VC.kill ?_ | refine VC.skip ?_ | refine VC.exit ?_ | refine VC.regA ?_ | refine VC.condT ?_ | refine VC.condF ?_))
    refine VC.ret (Fin.A ?_); rw [if_neg (by unfold okJ; omega)]; rfl
  refine VO.moreA ?_
  refine VO.call0A (no_orc 57 (by decide)) (Max_ok a (by omega) hl) ?_
  by_cases h4 : 12 < maxL a
  · refine VO.endA ?_
    (repeat (first | refine VC.seq ?_ | refine VC.block ?_ | refine VC.kill ?_ | refine VC.skip ?_ | refine VC.exit ?_ | refine VC.regA ?_ | refine VC.condT ?_ | refine VC.condF ?_))
    refine VC.ret (Fin.A ?_); rw [if_neg (by unfold okJ; omega)]; rfl
  refine VO.endA ?_
  (repeat (first | refine VC.seq ?_ | refine VC.block ?_ | refine VC.kill ?_ | refine VC.skip ?_ | refine VC.exit ?_ | refine VC.regA ?_ | refine VC.condT ?_ | refine VC.condF ?_))
  refine VC.ret (Fin.A ?_); rw [if_pos (by unfold okJ; omega)]; rfl

end Go.Ab.Jug

namespace Go.Ab.Jug
open Go.Ab.V
set_option maxRecDepth 100000
theorem foldl_max_ge : ∀ (a : List Int) (m : Int), m ≤ a.foldl max m ∧ ∀ x ∈ a, x ≤ a.foldl max m
  | [], m => ⟨Int.le_refl _, by simp⟩
  | y :: a, m => by
    obtain ⟨h1, h2⟩ := foldl_max_ge a (max m y)
    simp only [List.foldl_cons]
    exact ⟨by omega, fun x hx => by
      rcases List.mem_cons.1 hx with rfl | hx
      · omega
      · exact h2 x hx⟩
theorem foldl_min_le : ∀ (a : List Int) (m : Int), a.foldl min m ≤ m ∧ ∀ x ∈ a, a.foldl min m ≤ x
  | [], m => ⟨Int.le_refl _, by simp⟩
  | y :: a, m => by
    obtain ⟨h1, h2⟩ := foldl_min_le a (min m y)
    simp only [List.foldl_cons]
    exact ⟨by omega, fun x hx => by
      rcases List.mem_cons.1 hx with rfl | hx
      · omega
      · exact h2 x hx⟩
theorem okJ_mem {a : List Int} (h : okJ a) : ∀ x ∈ a, 1 ≤ x ∧ x ≤ 12 := fun x hx => by
  obtain ⟨_, _, h3, h4⟩ := h
  have h1 := (foldl_max_ge a (a.headD 0)).2 x hx
  have h2 := (foldl_min_le a (a.headD 0)).2 x hx
  unfold maxL at h4; unfold minL at h3
  omega
theorem gcd_dvd : ∀ (a : List Nat) (g : Nat), a.foldl Nat.gcd g ∣ g ∧ ∀ x ∈ a, a.foldl Nat.gcd g ∣ x
  | [], g => ⟨Nat.dvd_refl _, by simp⟩
  | y :: a, g => by
    obtain ⟨h1, h2⟩ := gcd_dvd a (Nat.gcd g y)
    simp only [List.foldl_cons]
    exact ⟨Nat.dvd_trans h1 (Nat.gcd_dvd_left _ _), fun x hx => by
      rcases List.mem_cons.1 hx with rfl | hx
      · exact Nat.dvd_trans h1 (Nat.gcd_dvd_right _ _)
      · exact h2 x hx⟩
end Go.Ab.Jug

namespace Go.Ab.Jug
open Go.Ab.V
set_option maxRecDepth 100000
theorem okJ_iff (a : List Int) : okJ a ↔ (∀ x ∈ a, 1 ≤ x ∧ x ≤ 12) ∧ 1 ≤ a.length ∧ a.length ≤ 4 := by
  refine ⟨fun h => ⟨okJ_mem h, h.1, h.2.1⟩, fun ⟨h, h1, h4⟩ => ⟨h1, h4, ?_, ?_⟩⟩
  · unfold minL
    have : ∀ (a : List Int) (m : Int), 1 ≤ m → (∀ x ∈ a, 1 ≤ x) → 1 ≤ a.foldl min m := by
      intro a
      induction a with
      | nil => intro m h _; exact h
      | cons y a ih => intro m h hx; exact ih _ (by have := hx y (by simp); omega) (fun x h => hx x (List.mem_cons_of_mem _ h))
    refine this a _ ?_ (fun x hx => (h x hx).1)
    cases a with
    | nil => simp at h1
    | cons y q => exact (h y (by simp)).1
  · unfold maxL
    have : ∀ (a : List Int) (m : Int), m ≤ 12 → (∀ x ∈ a, x ≤ 12) → a.foldl max m ≤ 12 := by
      intro a
      induction a with
      | nil => intro m h _; exact h
      | cons y a ih => intro m h hx; exact ih _ (by have := hx y (by simp); omega) (fun x h => hx x (List.mem_cons_of_mem _ h))
    refine this a _ ?_ (fun x hx => (h x hx).2)
    cases a with
    | nil => simp at h1
    | cons y q => exact (h y (by simp)).2
def fillB (x f : List Int) : Bool := f.length == x.length && (f.zip x).all (fun q => decide (0 ≤ q.1) && decide (q.1 ≤ q.2))
theorem fillB_iff (x f : List Int) : fillB x f = true ↔ f.length = x.length ∧ ∀ (i : Nat) (h : i < f.length) (h' : i < x.length), 0 ≤ f[i] ∧ f[i] ≤ x[i] := by
  unfold fillB
  rw [Bool.and_eq_true, beq_iff_eq, List.all_eq_true]
  constructor
  · rintro ⟨h1, h2⟩
    refine ⟨h1, fun i h h' => ?_⟩
    have := h2 (f[i], x[i]) (by rw [← List.getElem_zip (h := by simp; omega)]; exact List.getElem_mem _)
    simpa using this
  · rintro ⟨h1, h2⟩
    refine ⟨h1, fun q hq => ?_⟩
    obtain ⟨i, hi, rfl⟩ := List.mem_iff_getElem.1 hq
    rw [List.length_zip] at hi
    have := h2 i (by omega) (by omega)
    simpa [List.getElem_zip] using this
end Go.Ab.Jug

namespace Go.Ab.Jug
open Go.Ab.V
set_option maxRecDepth 100000
def pad4 (x : List Int) : List Int := x ++ List.replicate (4 - x.length) 0
/-- Jugs in memory: their number, the sizes, closed or not. -/
def jugC (x : List Int) (c : Bool) : List PV := pi x.length :: ((pad4 x).map pi ++ [.at (.bool c)])
def jugP (x : List Int) (c : Bool) : VV := .p (.fp 0 (jugC x c))
def nilP : VV := .p (.at (.pointer none))
theorem put_pad (x : List Int) (h : x.length ≤ 4) (n : Int) (c : VV) : putC [vi n, vi 0, vi 0, vi 0, vi 0, c] 1 (x.map vi) = vi n :: ((pad4 x).map vi ++ [c]) := by
  rcases x with _ | ⟨a, _ | ⟨b, _ | ⟨d, _ | ⟨e, _ | ⟨f, r⟩⟩⟩⟩⟩ <;> first | rfl | simp at h
theorem jug_pvs (x : List Int) (h : x.length ≤ 4) (c : Bool) : toPVs (vi x.length :: ((pad4 x).map vi ++ [vb c])) = some (jugC x c) := by
  rcases x with _ | ⟨a, _ | ⟨b, _ | ⟨d, _ | ⟨e, _ | ⟨f, r⟩⟩⟩⟩⟩ <;> first | rfl | simp at h
theorem open_ok (x : List Int) (h : okJ x) (c : Bool) (fs : List (List Int)) (hf : ∀ f ∈ fs, f.length ≤ 9223372036854775807) (hfs : fs.length < 100) :
    VCall cfg 46 [sl1 x, vb c, sl2 fs] [] [] (.tup [if fs.all (fillB x) then jugP x c else nilP, vi (if fs.all (fillB x) then 0 else 1)]) [] := by
  have hl : x.length ≤ 9223372036854775807 := by have := h.2.1; omega
  have hc := Check_ok x hl
  rw [if_pos h] at hc
  have h4 := h.2.1
  generalize hr : fs.all (fillB x) = r
  (refine VCall.mk (fn := a46) rfl rfl rfl ?_; simp only [a46, inV, mkB, nmsL, PT.set])
  (repeat (first | refine VC.seq ?_ | refine VC.block ?_ | refine VC.kill ?_ | refine VC.skip ?_ | refine VC.exit ?_ | refine VC.regA ?_ | refine VC.condT ?_ | refine VC.condF ?_))
  refine VC.regCA ?_
  refine VO.call0A (no_orc 43 (by decide)) hc ?_
  refine VO.endA ?_
  (repeat (first | refine VC.seq ?_ | refine VC.block ?_ | refine VC.kill ?_ | refine VC.skip ?_ | refine VC.exit ?_ | refine VC.regA ?_ | refine VC.condT ?_ | refine VC.condF ?_))
  have h1 : List.take x.length (x.map vi) = x.map vi := List.take_of_length_le (by simp)
  have h2 : (x.map vi).all okV = true := by simp [vi, okV, noref, nos]
  have h3 : 1 + x.length ≤ 1 + 1 + 1 + 1 + 1 + 1 := by omega
  have h6 := put_pad x h4 x.length (vb c)
  simp only [vi, vb] at h6
  apply VC.regU
  · (simp (config := {decide := false, maxSteps := 1000000}) (disch := omega) only [vev_call, putC_c0, putC_n0, putC_cs, ble0, List.getElem?_cons_zero, List.getElem?_cons_succ, runU, isCall, wantV, vev, evV, ofVal, ofAtom, atomB, cond_true, cond_false, PT.get, PT.set, PT.filt, PT.map, Option.getD_some, Option.getD_none, ret1V, ret1X, v_ld, v_ias, v_iad, v_fad, v_slsl, v_slarr, v_st, v_app, v_cpy, v_len, v_look, v_mset, elsV, partV, newV, free, atV, atI, atL, toVal, cellsV, okV, VSt.put, VSt.kill, VSt.alloc, VSt.frz, VSt.adopt, noref, norefB, deadB, deadV, nos, nm, nmL, nmB, nmE, Pa.eqb, Bool.not_false, Bool.not_true, Bool.and_true, Bool.true_and, Bool.false_and, Bool.and_false, bin, intOps, intBin, cvt, un, goInt, bndsV, bndV, Option.map_some, Option.map_none, List.map_cons, List.map_nil, Int.toNat_natCast, Nat.mul_one, Nat.zero_add, beq_true, beq_false, beq_self_eq_true, List.length_map, List.length_cons, List.length_nil, List.length_append, fillV, pEvV, repsV, List.append_nil, List.nil_append, if_pos, if_neg, reduceIte, List.getElem?_map, List.getElem?_drop, Nat.add_zero, List.getElem?_eq_getElem, Go.IntWalk.i64_in, wrap_u64, tmod_pos, eq_self, true_and, and_true, and_self, List.all_cons, List.all_nil, nmL_vi, flV_len, flP_len, flV_nm, flV_ok, flV_pv, flP_map, drop_flP, drop_flV, putC_flV, eqV2, eqV3, bneT, bneF, decide_true, decide_false, frzL_vi, frzL_flV, nmE_ag, nmE_at, frzE_ag, frzE_at, ofAg_len, ofAt_len, atL_vi, nmL_map_p, frzL_map_p, okL_p, toPVs_p, repsZ, nmL_reps, putC_vi, get_flV0, get_flV1, Int.toNat_zero, Int.toNat_one, Int.reduceToNat, eqV_slice, eqV_ptr, eqV_func, nilS, nilP, nilF, nmL_append, okL_vi, toPVs_vi, toPVs, toPV, frzV, frzL, frzB, resVV, vi, vb, nilV, sl1, bl1, pi, foldV, max2, min2, max_eq, min_eq, Int.tdiv_eq_ediv_of_nonneg, Int.cast_ofNat_Int, Option.isSome_none, Option.isSome_some, Option.isNone_none, Option.isNone_some, and_false, false_and, sl2, sl1P, slP, min_cast, take_map_pi, map_pi, Nat.sub_zero, Nat.zero_mul, List.length_take, decide_eq_true, decide_eq_false, Bool.true_eq_false, Bool.false_eq_true, beqT, beqF, ibeq, ibne, List.take_zero, List.take_succ_cons, List.drop_zero, List.drop_succ_cons, List.drop_nil, List.take_nil, List.cons_append, Bool.not_true, Bool.not_false, true_or, or_true, if_true, h1, h2, h3, ne_eq, true_and, and_true, Nat.succ_ne_self, not_false_eq_true, reduceCtorEq, Nat.one_ne_zero, Nat.min_eq_left h4, h6])
    rfl
  (repeat (first | refine VC.seq ?_ | refine VC.block ?_ | refine VC.kill ?_ | refine VC.skip ?_ | refine VC.exit ?_ | refine VC.regA ?_ | refine VC.condT ?_ | refine VC.condF ?_))
  refine VC.loopG (fun (i : Nat) => ⟨inV [p0, p9, p30, p31, p32] [sl1 x, .op 0 p23 0, sl2 fs, vi fs.length, vi i] .lf, mkB [(p23, .cells (vi x.length :: ((pad4 x).map vi ++ [vb c])))] .lf, [], none⟩) (fun n i => n = fs.length - i ∧ i ≤ fs.length ∧ (fs.take i).all (fillB x) = true) (x := 0) ?_ ⟨rfl, by omega, by simp⟩ ?_
  · (apply Go.Ab.V.G.weak; constructor <;> simp (config := {decide := true}) only [PT.Le, inV, mkB, PT.set, VSt.kill, VSt.adopt, VSt.alloc, PT.filt, PT.map, List.map_cons, List.map_nil, noref, norefB, deadB, deadV, nos, nm, nmL, nmB, nmE, Pa.eqb, cond_true, cond_false, Bool.not_true, Bool.not_false, Bool.and_true, Bool.true_and, nmL_vi, flV_len, flP_len, flV_nm, flV_ok, flV_pv, flP_map, drop_flP, drop_flV, putC_flV, eqV2, eqV3, bneT, bneF, decide_true, decide_false, frzL_vi, frzL_flV, nmE_ag, nmE_at, frzE_ag, frzE_at, ofAg_len, ofAt_len, atL_vi, nmL_map_p, frzL_map_p, okL_p, toPVs_p, repsZ, nmL_reps, putC_vi, get_flV0, get_flV1, Int.toNat_zero, Int.toNat_one, Int.reduceToNat, eqV_slice, eqV_ptr, eqV_func, nilS, nilP, nilF, nmL_append, true_or, or_true, and_self, true_and, and_true, Option.some.injEq, reduceCtorEq, false_or, or_false, VV.p.injEq, PV.at.injEq, Value.int.injEq, sl1, vi, bl1, vb, nilV]); rfl
  rintro n i ⟨hn, hi, hx⟩
  simp only [inV, PT.set, mkB]
  (repeat (first | refine VC.seq ?_ | refine VC.block ?_ | refine VC.kill ?_ | refine VC.skip ?_ | refine VC.exit ?_ | refine VC.regA ?_ | refine VC.condT ?_ | refine VC.condF ?_))
  refine VC.condA ?_ ?_ <;> intro h <;> (simp only [decide_eq_true_eq, decide_eq_false_iff_not, bne_iff_ne, ne_eq, bne_eq_false_iff_eq, beq_iff_eq, beq_eq_false_iff_ne, Bool.not_eq_true', Bool.not_eq_false', Bool.and_eq_true, Bool.or_eq_true, Int.natCast_inj] at h)
  · have h : i < fs.length := by omega
    have hfi := hf _ (List.getElem_mem h)
    (repeat (first | refine VC.seq ?_ | refine VC.block ?_ | refine VC.kill ?_ | refine VC.skip ?_ | refine VC.exit ?_ | refine VC.regA ?_ | refine VC.condT ?_ | refine VC.condF ?_))
    try simp only [PT.set]
    have hnot : fillB x fs[i] = false → fs.all (fillB x) = false := fun hb => by
      rw [← Bool.not_eq_true, List.all_eq_true]
      exact fun ha => by have := ha _ (List.getElem_mem h); rw [hb] at this; simp at this
    refine VC.condA ?_ ?_ <;> intro h5 <;> (simp only [decide_eq_true_eq, decide_eq_false_iff_not, bne_iff_ne, ne_eq, bne_eq_false_iff_eq, beq_iff_eq, beq_eq_false_iff_ne, Bool.not_eq_true', Bool.not_eq_false', Bool.and_eq_true, Bool.or_eq_true, Int.natCast_inj] at h5)
    · (repeat (first | refine VC.seq ?_ | refine VC.block ?_ | refine VC.kill ?_ | refine VC.skip ?_ | refine VC.exit ?_ | refine VC.regA ?_ | refine VC.condT ?_ | refine VC.condF ?_))
      have : fillB x fs[i] = false := by rw [← Bool.not_eq_true, fillB_iff]; exact fun h => h5 h.1
      obtain rfl := hr.symm.trans (hnot this)
      exact VC.ret (Fin.A rfl)
    have h5 : fs[i].length = x.length := by omega
    (repeat (first | refine VC.seq ?_ | refine VC.block ?_ | refine VC.kill ?_ | refine VC.skip ?_ | refine VC.exit ?_ | refine VC.regA ?_ | refine VC.condT ?_ | refine VC.condF ?_))
    refine VC.loopG (fun (k : Nat) => ⟨inV [p0, p9, p30, p31, p32, p43, p44, p45] [sl1 x, .op 0 p23 0, sl2 fs, vi fs.length, vi i, sl1 fs[i], vi fs[i].length, vi k] .lf, mkB [(p23, .cells (vi x.length :: ((pad4 x).map vi ++ [vb c])))] .lf, [], none⟩) (fun n k => n = fs[i].length - k ∧ k ≤ fs[i].length ∧ ∀ (q : Nat) (h : q < fs[i].length) (h' : q < x.length), q < k → 0 ≤ fs[i][q] ∧ fs[i][q] ≤ x[q]) (x := 0) ?_ ⟨rfl, by omega, fun k _ _ h => by omega⟩ ?_
    · (apply Go.Ab.V.G.weak; constructor <;> simp (config := {decide := true}) only [PT.Le, inV, mkB, PT.set, VSt.kill, VSt.adopt, VSt.alloc, PT.filt, PT.map, List.map_cons, List.map_nil, noref, norefB, deadB, deadV, nos, nm, nmL, nmB, nmE, Pa.eqb, cond_true, cond_false, Bool.not_true, Bool.not_false, Bool.and_true, Bool.true_and, nmL_vi, flV_len, flP_len, flV_nm, flV_ok, flV_pv, flP_map, drop_flP, drop_flV, putC_flV, eqV2, eqV3, bneT, bneF, decide_true, decide_false, frzL_vi, frzL_flV, nmE_ag, nmE_at, frzE_ag, frzE_at, ofAg_len, ofAt_len, atL_vi, nmL_map_p, frzL_map_p, okL_p, toPVs_p, repsZ, nmL_reps, putC_vi, get_flV0, get_flV1, Int.toNat_zero, Int.toNat_one, Int.reduceToNat, eqV_slice, eqV_ptr, eqV_func, nilS, nilP, nilF, nmL_append, true_or, or_true, and_self, true_and, and_true, Option.some.injEq, reduceCtorEq, false_or, or_false, VV.p.injEq, PV.at.injEq, Value.int.injEq, sl1, vi, bl1, vb, nilV]); rfl
    rintro m k ⟨hm, hk, hkx⟩
    simp only [inV, PT.set, mkB]
    (repeat (first | refine VC.seq ?_ | refine VC.block ?_ | refine VC.kill ?_ | refine VC.skip ?_ | refine VC.exit ?_ | refine VC.regA ?_ | refine VC.condT ?_ | refine VC.condF ?_))
    refine VC.condA ?_ ?_ <;> intro h7 <;> (simp only [decide_eq_true_eq, decide_eq_false_iff_not, bne_iff_ne, ne_eq, bne_eq_false_iff_eq, beq_iff_eq, beq_eq_false_iff_ne, Bool.not_eq_true', Bool.not_eq_false', Bool.and_eq_true, Bool.or_eq_true, Int.natCast_inj] at h7)
    · have h7 : k < fs[i].length := by omega
      have h8 : k < x.length := by omega
      have hno : (fs[i][k] < 0 ∨ x[k] < fs[i][k]) → fs.all (fillB x) = false := fun hb => hnot (by
        rw [← Bool.not_eq_true, fillB_iff]
        intro hk
        have := hk.2 k h7 h8
        omega)
      by_cases g1 : fs[i][k] < 0
      · (repeat (first | refine VC.seq ?_ | refine VC.block ?_ | refine VC.kill ?_ | refine VC.skip ?_ | refine VC.exit ?_ | refine VC.regA ?_ | refine VC.condT ?_ | refine VC.condF ?_))
        obtain rfl := hr.symm.trans (hno (.inl g1))
        exact VC.ret (Fin.A rfl)
      by_cases g2 : x[k] < fs[i][k]
      · (repeat (first | refine VC.seq ?_ | refine VC.block ?_ | refine VC.kill ?_ | refine VC.skip ?_ | refine VC.exit ?_ | refine VC.regA ?_ | refine VC.condT ?_ | refine VC.condF ?_))
        obtain rfl := hr.symm.trans (hno (.inr g2))
        exact VC.ret (Fin.A rfl)
      (repeat (first | refine VC.seq ?_ | refine VC.block ?_ | refine VC.kill ?_ | refine VC.skip ?_ | refine VC.exit ?_ | refine VC.regA ?_ | refine VC.condT ?_ | refine VC.condF ?_))
      refine ⟨_, k + 1, ?_, ⟨rfl, by omega, ?_⟩, ?_⟩
      · omega
      · intro q hq hq' hlt
        rcases Nat.lt_or_ge q k with h3 | h3
        · exact hkx q hq hq' h3
        · have : q = k := by omega
          subst this; omega
      · (apply Go.Ab.V.G.weak; constructor <;> simp (config := {decide := true}) only [PT.Le, inV, mkB, PT.set, VSt.kill, VSt.adopt, VSt.alloc, PT.filt, PT.map, List.map_cons, List.map_nil, noref, norefB, deadB, deadV, nos, nm, nmL, nmB, nmE, Pa.eqb, cond_true, cond_false, Bool.not_true, Bool.not_false, Bool.and_true, Bool.true_and, nmL_vi, flV_len, flP_len, flV_nm, flV_ok, flV_pv, flP_map, drop_flP, drop_flV, putC_flV, eqV2, eqV3, bneT, bneF, decide_true, decide_false, frzL_vi, frzL_flV, nmE_ag, nmE_at, frzE_ag, frzE_at, ofAg_len, ofAt_len, atL_vi, nmL_map_p, frzL_map_p, okL_p, toPVs_p, repsZ, nmL_reps, putC_vi, get_flV0, get_flV1, Int.toNat_zero, Int.toNat_one, Int.reduceToNat, eqV_slice, eqV_ptr, eqV_func, nilS, nilP, nilF, nmL_append, true_or, or_true, and_self, true_and, and_true, Option.some.injEq, reduceCtorEq, false_or, or_false, VV.p.injEq, PV.at.injEq, Value.int.injEq, sl1, vi, bl1, vb, nilV, sl2]); rfl
    · (repeat (first | refine VC.seq ?_ | refine VC.block ?_ | refine VC.kill ?_ | refine VC.skip ?_ | refine VC.exit ?_ | refine VC.regA ?_ | refine VC.condT ?_ | refine VC.condF ?_))
      refine ⟨_, i + 1, ?_, ⟨rfl, by omega, ?_⟩, ?_⟩
      · omega
      · rw [List.take_add_one, List.getElem?_eq_getElem h, List.all_append, hx]
        simp only [Option.toList_some, List.all_cons, List.all_nil, Bool.and_true, Bool.true_and]
        exact (fillB_iff _ _).2 ⟨h5, fun q hq hq' => hkx q hq hq' (by omega)⟩
      · (apply Go.Ab.V.G.weak; constructor <;> simp (config := {decide := true}) only [PT.Le, inV, mkB, PT.set, VSt.kill, VSt.adopt, VSt.alloc, PT.filt, PT.map, List.map_cons, List.map_nil, noref, norefB, deadB, deadV, nos, nm, nmL, nmB, nmE, Pa.eqb, cond_true, cond_false, Bool.not_true, Bool.not_false, Bool.and_true, Bool.true_and, nmL_vi, flV_len, flP_len, flV_nm, flV_ok, flV_pv, flP_map, drop_flP, drop_flV, putC_flV, eqV2, eqV3, bneT, bneF, decide_true, decide_false, frzL_vi, frzL_flV, nmE_ag, nmE_at, frzE_ag, frzE_at, ofAg_len, ofAt_len, atL_vi, nmL_map_p, frzL_map_p, okL_p, toPVs_p, repsZ, nmL_reps, putC_vi, get_flV0, get_flV1, Int.toNat_zero, Int.toNat_one, Int.reduceToNat, eqV_slice, eqV_ptr, eqV_func, nilS, nilP, nilF, nmL_append, true_or, or_true, and_self, true_and, and_true, Option.some.injEq, reduceCtorEq, false_or, or_false, VV.p.injEq, PV.at.injEq, Value.int.injEq, sl1, vi, bl1, vb, nilV, sl2]); rfl
  · rw [List.take_of_length_le (by omega)] at hx
    obtain rfl := hr.symm.trans hx
    (repeat (first | refine VC.seq ?_ | refine VC.block ?_ | refine VC.kill ?_ | refine VC.skip ?_ | refine VC.exit ?_ | refine VC.regA ?_ | refine VC.condT ?_ | refine VC.condF ?_))
    exact VC.ret (Fin.frzA p23 (hb := rfl) (hc := jug_pvs x h4 c) (Fin.A rfl))
end Go.Ab.Jug

namespace Go.Ab.Jug
open Go.Ab.V
set_option maxRecDepth 100000
end Go.Ab.Jug

namespace Go.Ab.Jug
open Go.Ab.V
set_option maxRecDepth 100000
def jugQ (n : Nat) (q0 q1 q2 q3 : Int) (c : Bool) : List PV := [pi n, pi q0, pi q1, pi q2, pi q3, .at (.bool c)]
def inR (n : Nat) (i : Int) : Bool := decide (-1 ≤ i ∧ i < n)
section
variable {n : Nat} {q0 q1 q2 q3 : Int} {c : Bool} {a b : Int}
theorem is1_ok {i : Int} (hi : -9223372036854775808 ≤ i ∧ i ≤ 9223372036854775807) (hx : n ≤ 4) : VCall cfg 72 [vi i, .p (.fp 0 [.fp 0 (jugQ n q0 q1 q2 q3 c)])] [] [] (vb (inR n i)) [] := by
  (refine VCall.mk (fn := a72) rfl rfl rfl ?_; simp only [a72, inV, mkB, nmsL, PT.set])
  simp only [jugQ]
  (repeat (first | refine VC.seq ?_ | refine VC.block ?_ | refine VC.kill ?_ | refine VC.skip ?_ | refine VC.exit ?_ | refine VC.regA ?_ | refine VC.condT ?_ | refine VC.condF ?_))
  by_cases h1 : i < -1
  · (repeat (first | refine VC.seq ?_ | refine VC.block ?_ | refine VC.kill ?_ | refine VC.skip ?_ | refine VC.exit ?_ | refine VC.regA ?_ | refine VC.condT ?_ | refine VC.condF ?_))
    refine VC.ret (Fin.A ?_)
    rw [inR, decide_eq_false (by omega)]; rfl
  have h1 : -1 ≤ i := by omega
  (repeat (first | refine VC.seq ?_ | refine VC.block ?_ | refine VC.kill ?_ | refine VC.skip ?_ | refine VC.exit ?_ | refine VC.regA ?_ | refine VC.condT ?_ | refine VC.condF ?_))
  refine VC.ret (Fin.A ?_)
  have : inR n i = decide (i < n) := by rw [inR, decide_eq_decide]; omega
  rw [this]; rfl
def ag2 (a b : Int) : VV := .agg [vi a, vi b]
def ag4 (f0 f1 f2 f3 : Int) : VV := .agg [vi f0, vi f1, vi f2, vi f3]
def isS (n : Nat) (c : Bool) (a b : Int) : Bool := inR n a && inR n b && decide (a ≠ b) && (!c || (decide (a ≠ -1) && decide (b ≠ -1)))
theorem is_ok (ha : -9223372036854775808 ≤ a ∧ a ≤ 9223372036854775807) (hb : -9223372036854775808 ≤ b ∧ b ≤ 9223372036854775807) (hx : n ≤ 4) :
    VCall cfg 61 [ag2 a b, .p (.fp 0 (jugQ n q0 q1 q2 q3 c))] [] [] (vb (isS n c a b)) [] := by
  have k1 := is1_ok (n := n) (q0 := q0) (q1 := q1) (q2 := q2) (q3 := q3) (c := c) ha hx
  have k2 := is1_ok (n := n) (q0 := q0) (q1 := q1) (q2 := q2) (q3 := q3) (c := c) hb hx
  (refine VCall.mk (fn := a61) rfl rfl rfl ?_; simp only [a61, inV, mkB, nmsL, PT.set])
  simp only [ag2, jugQ] at *
  (repeat (first | refine VC.seq ?_ | refine VC.block ?_ | refine VC.kill ?_ | refine VC.skip ?_ | refine VC.exit ?_ | refine VC.regA ?_ | refine VC.condT ?_ | refine VC.condF ?_))
  refine VC.frzA p3 ?_
  refine VC.regCA ?_
  refine VO.moreA ?_
  refine VO.call0A (no_orc 72 (by decide)) k1 ?_
  cases h1 : inR n a with
  | false =>
    (apply VO.uptoE; · ((repeat (rw [runU_cons]; (simp (config := {decide := false, maxSteps := 1000000}) (disch := omega) only [vev_call, putC_c0, putC_n0, putC_cs, ble0, List.getElem?_cons_zero, List.getElem?_cons_succ, isCall, wantV, vev, evV, ofVal, ofAtom, atomB, cond_true, cond_false, PT.get, PT.set, PT.filt, PT.map, Option.getD_some, Option.getD_none, ret1V, ret1X, v_ld, v_ias, v_iad, v_fad, v_slsl, v_slarr, v_st, v_app, v_cpy, v_len, v_look, v_mset, elsV, partV, newV, free, atV, atI, atL, toVal, cellsV, okV, VSt.put, VSt.kill, VSt.alloc, VSt.frz, VSt.adopt, noref, norefB, deadB, deadV, nos, nm, nmL, nmB, nmE, Pa.eqb, Bool.not_false, Bool.not_true, Bool.and_true, Bool.true_and, Bool.false_and, Bool.and_false, bin, intOps, intBin, cvt, un, goInt, bndsV, bndV, Option.map_some, Option.map_none, List.map_cons, List.map_nil, Int.toNat_natCast, Nat.mul_one, Nat.zero_add, beq_true, beq_false, beq_self_eq_true, List.length_map, List.length_cons, List.length_nil, List.length_append, fillV, pEvV, repsV, List.append_nil, List.nil_append, if_pos, if_neg, reduceIte, List.getElem?_map, List.getElem?_drop, Nat.add_zero, List.getElem?_eq_getElem, Go.IntWalk.i64_in, wrap_u64, tmod_pos, eq_self, true_and, and_true, and_self, List.all_cons, List.all_nil, nmL_vi, flV_len, flP_len, flV_nm, flV_ok, flV_pv, flP_map, drop_flP, drop_flV, putC_flV, eqV2, eqV3, bneT, bneF, decide_true, decide_false, frzL_vi, frzL_flV, nmE_ag, nmE_at, frzE_ag, frzE_at, ofAg_len, ofAt_len, atL_vi, nmL_map_p, frzL_map_p, okL_p, toPVs_p, repsZ, nmL_reps, putC_vi, get_flV0, get_flV1, Int.toNat_zero, Int.toNat_one, Int.reduceToNat, eqV_slice, eqV_ptr, eqV_func, nilS, nilP, nilF, nmL_append, okL_vi, toPVs_vi, toPVs, toPV, frzV, frzL, frzB, resVV, vi, vb, nilV, sl1, bl1, pi, foldV, max2, min2, max_eq, min_eq, Int.tdiv_eq_ediv_of_nonneg, Int.cast_ofNat_Int, Option.isSome_none, Option.isSome_some, Option.isNone_none, Option.isNone_some, and_false, false_and, sl2, sl1P, slP, min_cast, take_map_pi, map_pi, Nat.sub_zero, Nat.zero_mul, List.length_take, decide_eq_true, decide_eq_false, Bool.true_eq_false, Bool.false_eq_true, beqT, beqF, ibeq, ibne, List.take_zero, List.take_succ_cons, List.drop_zero, List.drop_succ_cons, List.drop_nil, List.take_nil, List.cons_append, Bool.not_true, Bool.not_false]))); rfl))
    (repeat (first | refine VC.seq ?_ | refine VC.block ?_ | refine VC.kill ?_ | refine VC.skip ?_ | refine VC.exit ?_ | refine VC.regA ?_ | refine VC.condT ?_ | refine VC.condF ?_))
    refine VC.ret (Fin.A ?_); simp [isS, h1]; rfl
  | true =>
  (apply VO.upto; · ((repeat (rw [runU_cons]; (simp (config := {decide := false, maxSteps := 1000000}) (disch := omega) only [vev_call, putC_c0, putC_n0, putC_cs, ble0, List.getElem?_cons_zero, List.getElem?_cons_succ, isCall, wantV, vev, evV, ofVal, ofAtom, atomB, cond_true, cond_false, PT.get, PT.set, PT.filt, PT.map, Option.getD_some, Option.getD_none, ret1V, ret1X, v_ld, v_ias, v_iad, v_fad, v_slsl, v_slarr, v_st, v_app, v_cpy, v_len, v_look, v_mset, elsV, partV, newV, free, atV, atI, atL, toVal, cellsV, okV, VSt.put, VSt.kill, VSt.alloc, VSt.frz, VSt.adopt, noref, norefB, deadB, deadV, nos, nm, nmL, nmB, nmE, Pa.eqb, Bool.not_false, Bool.not_true, Bool.and_true, Bool.true_and, Bool.false_and, Bool.and_false, bin, intOps, intBin, cvt, un, goInt, bndsV, bndV, Option.map_some, Option.map_none, List.map_cons, List.map_nil, Int.toNat_natCast, Nat.mul_one, Nat.zero_add, beq_true, beq_false, beq_self_eq_true, List.length_map, List.length_cons, List.length_nil, List.length_append, fillV, pEvV, repsV, List.append_nil, List.nil_append, if_pos, if_neg, reduceIte, List.getElem?_map, List.getElem?_drop, Nat.add_zero, List.getElem?_eq_getElem, Go.IntWalk.i64_in, wrap_u64, tmod_pos, eq_self, true_and, and_true, and_self, List.all_cons, List.all_nil, nmL_vi, flV_len, flP_len, flV_nm, flV_ok, flV_pv, flP_map, drop_flP, drop_flV, putC_flV, eqV2, eqV3, bneT, bneF, decide_true, decide_false, frzL_vi, frzL_flV, nmE_ag, nmE_at, frzE_ag, frzE_at, ofAg_len, ofAt_len, atL_vi, nmL_map_p, frzL_map_p, okL_p, toPVs_p, repsZ, nmL_reps, putC_vi, get_flV0, get_flV1, Int.toNat_zero, Int.toNat_one, Int.reduceToNat, eqV_slice, eqV_ptr, eqV_func, nilS, nilP, nilF, nmL_append, okL_vi, toPVs_vi, toPVs, toPV, frzV, frzL, frzB, resVV, vi, vb, nilV, sl1, bl1, pi, foldV, max2, min2, max_eq, min_eq, Int.tdiv_eq_ediv_of_nonneg, Int.cast_ofNat_Int, Option.isSome_none, Option.isSome_some, Option.isNone_none, Option.isNone_some, and_false, false_and, sl2, sl1P, slP, min_cast, take_map_pi, map_pi, Nat.sub_zero, Nat.zero_mul, List.length_take, decide_eq_true, decide_eq_false, Bool.true_eq_false, Bool.false_eq_true, beqT, beqF, ibeq, ibne, List.take_zero, List.take_succ_cons, List.drop_zero, List.drop_succ_cons, List.drop_nil, List.take_nil, List.cons_append, Bool.not_true, Bool.not_false]))); rfl))
  refine VO.call0A (no_orc 72 (by decide)) k2 ?_
  cases h2 : inR n b with
  | false =>
    (apply VO.uptoE; · ((repeat (rw [runU_cons]; (simp (config := {decide := false, maxSteps := 1000000}) (disch := omega) only [vev_call, putC_c0, putC_n0, putC_cs, ble0, List.getElem?_cons_zero, List.getElem?_cons_succ, isCall, wantV, vev, evV, ofVal, ofAtom, atomB, cond_true, cond_false, PT.get, PT.set, PT.filt, PT.map, Option.getD_some, Option.getD_none, ret1V, ret1X, v_ld, v_ias, v_iad, v_fad, v_slsl, v_slarr, v_st, v_app, v_cpy, v_len, v_look, v_mset, elsV, partV, newV, free, atV, atI, atL, toVal, cellsV, okV, VSt.put, VSt.kill, VSt.alloc, VSt.frz, VSt.adopt, noref, norefB, deadB, deadV, nos, nm, nmL, nmB, nmE, Pa.eqb, Bool.not_false, Bool.not_true, Bool.and_true, Bool.true_and, Bool.false_and, Bool.and_false, bin, intOps, intBin, cvt, un, goInt, bndsV, bndV, Option.map_some, Option.map_none, List.map_cons, List.map_nil, Int.toNat_natCast, Nat.mul_one, Nat.zero_add, beq_true, beq_false, beq_self_eq_true, List.length_map, List.length_cons, List.length_nil, List.length_append, fillV, pEvV, repsV, List.append_nil, List.nil_append, if_pos, if_neg, reduceIte, List.getElem?_map, List.getElem?_drop, Nat.add_zero, List.getElem?_eq_getElem, Go.IntWalk.i64_in, wrap_u64, tmod_pos, eq_self, true_and, and_true, and_self, List.all_cons, List.all_nil, nmL_vi, flV_len, flP_len, flV_nm, flV_ok, flV_pv, flP_map, drop_flP, drop_flV, putC_flV, eqV2, eqV3, bneT, bneF, decide_true, decide_false, frzL_vi, frzL_flV, nmE_ag, nmE_at, frzE_ag, frzE_at, ofAg_len, ofAt_len, atL_vi, nmL_map_p, frzL_map_p, okL_p, toPVs_p, repsZ, nmL_reps, putC_vi, get_flV0, get_flV1, Int.toNat_zero, Int.toNat_one, Int.reduceToNat, eqV_slice, eqV_ptr, eqV_func, nilS, nilP, nilF, nmL_append, okL_vi, toPVs_vi, toPVs, toPV, frzV, frzL, frzB, resVV, vi, vb, nilV, sl1, bl1, pi, foldV, max2, min2, max_eq, min_eq, Int.tdiv_eq_ediv_of_nonneg, Int.cast_ofNat_Int, Option.isSome_none, Option.isSome_some, Option.isNone_none, Option.isNone_some, and_false, false_and, sl2, sl1P, slP, min_cast, take_map_pi, map_pi, Nat.sub_zero, Nat.zero_mul, List.length_take, decide_eq_true, decide_eq_false, Bool.true_eq_false, Bool.false_eq_true, beqT, beqF, ibeq, ibne, List.take_zero, List.take_succ_cons, List.drop_zero, List.drop_succ_cons, List.drop_nil, List.take_nil, List.cons_append, Bool.not_true, Bool.not_false]))); rfl))
    (repeat (first | refine VC.seq ?_ | refine VC.block ?_ | refine VC.kill ?_ | refine VC.skip ?_ | refine VC.exit ?_ | refine VC.regA ?_ | refine VC.condT ?_ | refine VC.condF ?_))
    refine VC.ret (Fin.A ?_); simp [isS, h1, h2]; rfl
  | true =>
  by_cases h3 : a = b
  · (apply VO.uptoE; · ((repeat (rw [runU_cons]; (simp (config := {decide := false, maxSteps := 1000000}) (disch := omega) only [vev_call, putC_c0, putC_n0, putC_cs, ble0, List.getElem?_cons_zero, List.getElem?_cons_succ, isCall, wantV, vev, evV, ofVal, ofAtom, atomB, cond_true, cond_false, PT.get, PT.set, PT.filt, PT.map, Option.getD_some, Option.getD_none, ret1V, ret1X, v_ld, v_ias, v_iad, v_fad, v_slsl, v_slarr, v_st, v_app, v_cpy, v_len, v_look, v_mset, elsV, partV, newV, free, atV, atI, atL, toVal, cellsV, okV, VSt.put, VSt.kill, VSt.alloc, VSt.frz, VSt.adopt, noref, norefB, deadB, deadV, nos, nm, nmL, nmB, nmE, Pa.eqb, Bool.not_false, Bool.not_true, Bool.and_true, Bool.true_and, Bool.false_and, Bool.and_false, bin, intOps, intBin, cvt, un, goInt, bndsV, bndV, Option.map_some, Option.map_none, List.map_cons, List.map_nil, Int.toNat_natCast, Nat.mul_one, Nat.zero_add, beq_true, beq_false, beq_self_eq_true, List.length_map, List.length_cons, List.length_nil, List.length_append, fillV, pEvV, repsV, List.append_nil, List.nil_append, if_pos, if_neg, reduceIte, List.getElem?_map, List.getElem?_drop, Nat.add_zero, List.getElem?_eq_getElem, Go.IntWalk.i64_in, wrap_u64, tmod_pos, eq_self, true_and, and_true, and_self, List.all_cons, List.all_nil, nmL_vi, flV_len, flP_len, flV_nm, flV_ok, flV_pv, flP_map, drop_flP, drop_flV, putC_flV, eqV2, eqV3, bneT, bneF, decide_true, decide_false, frzL_vi, frzL_flV, nmE_ag, nmE_at, frzE_ag, frzE_at, ofAg_len, ofAt_len, atL_vi, nmL_map_p, frzL_map_p, okL_p, toPVs_p, repsZ, nmL_reps, putC_vi, get_flV0, get_flV1, Int.toNat_zero, Int.toNat_one, Int.reduceToNat, eqV_slice, eqV_ptr, eqV_func, nilS, nilP, nilF, nmL_append, okL_vi, toPVs_vi, toPVs, toPV, frzV, frzL, frzB, resVV, vi, vb, nilV, sl1, bl1, pi, foldV, max2, min2, max_eq, min_eq, Int.tdiv_eq_ediv_of_nonneg, Int.cast_ofNat_Int, Option.isSome_none, Option.isSome_some, Option.isNone_none, Option.isNone_some, and_false, false_and, sl2, sl1P, slP, min_cast, take_map_pi, map_pi, Nat.sub_zero, Nat.zero_mul, List.length_take, decide_eq_true, decide_eq_false, Bool.true_eq_false, Bool.false_eq_true, beqT, beqF, ibeq, ibne, List.take_zero, List.take_succ_cons, List.drop_zero, List.drop_succ_cons, List.drop_nil, List.take_nil, List.cons_append, Bool.not_true, Bool.not_false]))); rfl))
    (repeat (first | refine VC.seq ?_ | refine VC.block ?_ | refine VC.kill ?_ | refine VC.skip ?_ | refine VC.exit ?_ | refine VC.regA ?_ | refine VC.condT ?_ | refine VC.condF ?_))
    refine VC.ret (Fin.A ?_); simp [isS, h3]; rfl
  cases c with
  | false =>
    (apply VO.uptoE; · ((repeat (rw [runU_cons]; (simp (config := {decide := false, maxSteps := 1000000}) (disch := omega) only [vev_call, putC_c0, putC_n0, putC_cs, ble0, List.getElem?_cons_zero, List.getElem?_cons_succ, isCall, wantV, vev, evV, ofVal, ofAtom, atomB, cond_true, cond_false, PT.get, PT.set, PT.filt, PT.map, Option.getD_some, Option.getD_none, ret1V, ret1X, v_ld, v_ias, v_iad, v_fad, v_slsl, v_slarr, v_st, v_app, v_cpy, v_len, v_look, v_mset, elsV, partV, newV, free, atV, atI, atL, toVal, cellsV, okV, VSt.put, VSt.kill, VSt.alloc, VSt.frz, VSt.adopt, noref, norefB, deadB, deadV, nos, nm, nmL, nmB, nmE, Pa.eqb, Bool.not_false, Bool.not_true, Bool.and_true, Bool.true_and, Bool.false_and, Bool.and_false, bin, intOps, intBin, cvt, un, goInt, bndsV, bndV, Option.map_some, Option.map_none, List.map_cons, List.map_nil, Int.toNat_natCast, Nat.mul_one, Nat.zero_add, beq_true, beq_false, beq_self_eq_true, List.length_map, List.length_cons, List.length_nil, List.length_append, fillV, pEvV, repsV, List.append_nil, List.nil_append, if_pos, if_neg, reduceIte, List.getElem?_map, List.getElem?_drop, Nat.add_zero, List.getElem?_eq_getElem, Go.IntWalk.i64_in, wrap_u64, tmod_pos, eq_self, true_and, and_true, and_self, List.all_cons, List.all_nil, nmL_vi, flV_len, flP_len, flV_nm, flV_ok, flV_pv, flP_map, drop_flP, drop_flV, putC_flV, eqV2, eqV3, bneT, bneF, decide_true, decide_false, frzL_vi, frzL_flV, nmE_ag, nmE_at, frzE_ag, frzE_at, ofAg_len, ofAt_len, atL_vi, nmL_map_p, frzL_map_p, okL_p, toPVs_p, repsZ, nmL_reps, putC_vi, get_flV0, get_flV1, Int.toNat_zero, Int.toNat_one, Int.reduceToNat, eqV_slice, eqV_ptr, eqV_func, nilS, nilP, nilF, nmL_append, okL_vi, toPVs_vi, toPVs, toPV, frzV, frzL, frzB, resVV, vi, vb, nilV, sl1, bl1, pi, foldV, max2, min2, max_eq, min_eq, Int.tdiv_eq_ediv_of_nonneg, Int.cast_ofNat_Int, Option.isSome_none, Option.isSome_some, Option.isNone_none, Option.isNone_some, and_false, false_and, sl2, sl1P, slP, min_cast, take_map_pi, map_pi, Nat.sub_zero, Nat.zero_mul, List.length_take, decide_eq_true, decide_eq_false, Bool.true_eq_false, Bool.false_eq_true, beqT, beqF, ibeq, ibne, List.take_zero, List.take_succ_cons, List.drop_zero, List.drop_succ_cons, List.drop_nil, List.take_nil, List.cons_append, Bool.not_true, Bool.not_false]))); rfl))
    (repeat (first | refine VC.seq ?_ | refine VC.block ?_ | refine VC.kill ?_ | refine VC.skip ?_ | refine VC.exit ?_ | refine VC.regA ?_ | refine VC.condT ?_ | refine VC.condF ?_))
    refine VC.ret (Fin.A ?_); simp [isS, h1, h2, h3]; rfl
  | true =>
  by_cases h4 : a = -1
  · (apply VO.uptoE; · ((repeat (rw [runU_cons]; (simp (config := {decide := false, maxSteps := 1000000}) (disch := omega) only [vev_call, putC_c0, putC_n0, putC_cs, ble0, List.getElem?_cons_zero, List.getElem?_cons_succ, isCall, wantV, vev, evV, ofVal, ofAtom, atomB, cond_true, cond_false, PT.get, PT.set, PT.filt, PT.map, Option.getD_some, Option.getD_none, ret1V, ret1X, v_ld, v_ias, v_iad, v_fad, v_slsl, v_slarr, v_st, v_app, v_cpy, v_len, v_look, v_mset, elsV, partV, newV, free, atV, atI, atL, toVal, cellsV, okV, VSt.put, VSt.kill, VSt.alloc, VSt.frz, VSt.adopt, noref, norefB, deadB, deadV, nos, nm, nmL, nmB, nmE, Pa.eqb, Bool.not_false, Bool.not_true, Bool.and_true, Bool.true_and, Bool.false_and, Bool.and_false, bin, intOps, intBin, cvt, un, goInt, bndsV, bndV, Option.map_some, Option.map_none, List.map_cons, List.map_nil, Int.toNat_natCast, Nat.mul_one, Nat.zero_add, beq_true, beq_false, beq_self_eq_true, List.length_map, List.length_cons, List.length_nil, List.length_append, fillV, pEvV, repsV, List.append_nil, List.nil_append, if_pos, if_neg, reduceIte, List.getElem?_map, List.getElem?_drop, Nat.add_zero, List.getElem?_eq_getElem, Go.IntWalk.i64_in, wrap_u64, tmod_pos, eq_self, true_and, and_true, and_self, List.all_cons, List.all_nil, nmL_vi, flV_len, flP_len, flV_nm, flV_ok, flV_pv, flP_map, drop_flP, drop_flV, putC_flV, eqV2, eqV3, bneT, bneF, decide_true, decide_false, frzL_vi, frzL_flV, nmE_ag, nmE_at, frzE_ag, frzE_at, ofAg_len, ofAt_len, atL_vi, nmL_map_p, frzL_map_p, okL_p, toPVs_p, repsZ, nmL_reps, putC_vi, get_flV0, get_flV1, Int.toNat_zero, Int.toNat_one, Int.reduceToNat, eqV_slice, eqV_ptr, eqV_func, nilS, nilP, nilF, nmL_append, okL_vi, toPVs_vi, toPVs, toPV, frzV, frzL, frzB, resVV, vi, vb, nilV, sl1, bl1, pi, foldV, max2, min2, max_eq, min_eq, Int.tdiv_eq_ediv_of_nonneg, Int.cast_ofNat_Int, Option.isSome_none, Option.isSome_some, Option.isNone_none, Option.isNone_some, and_false, false_and, sl2, sl1P, slP, min_cast, take_map_pi, map_pi, Nat.sub_zero, Nat.zero_mul, List.length_take, decide_eq_true, decide_eq_false, Bool.true_eq_false, Bool.false_eq_true, beqT, beqF, ibeq, ibne, List.take_zero, List.take_succ_cons, List.drop_zero, List.drop_succ_cons, List.drop_nil, List.take_nil, List.cons_append, Bool.not_true, Bool.not_false]))); rfl))
    (repeat (first | refine VC.seq ?_ | refine VC.block ?_ | refine VC.kill ?_ | refine VC.skip ?_ | refine VC.exit ?_ | refine VC.regA ?_ | refine VC.condT ?_ | refine VC.condF ?_))
    refine VC.ret (Fin.A ?_); simp [isS, h4]; rfl
  (apply VO.uptoE; · ((repeat (rw [runU_cons]; (simp (config := {decide := false, maxSteps := 1000000}) (disch := omega) only [vev_call, putC_c0, putC_n0, putC_cs, ble0, List.getElem?_cons_zero, List.getElem?_cons_succ, isCall, wantV, vev, evV, ofVal, ofAtom, atomB, cond_true, cond_false, PT.get, PT.set, PT.filt, PT.map, Option.getD_some, Option.getD_none, ret1V, ret1X, v_ld, v_ias, v_iad, v_fad, v_slsl, v_slarr, v_st, v_app, v_cpy, v_len, v_look, v_mset, elsV, partV, newV, free, atV, atI, atL, toVal, cellsV, okV, VSt.put, VSt.kill, VSt.alloc, VSt.frz, VSt.adopt, noref, norefB, deadB, deadV, nos, nm, nmL, nmB, nmE, Pa.eqb, Bool.not_false, Bool.not_true, Bool.and_true, Bool.true_and, Bool.false_and, Bool.and_false, bin, intOps, intBin, cvt, un, goInt, bndsV, bndV, Option.map_some, Option.map_none, List.map_cons, List.map_nil, Int.toNat_natCast, Nat.mul_one, Nat.zero_add, beq_true, beq_false, beq_self_eq_true, List.length_map, List.length_cons, List.length_nil, List.length_append, fillV, pEvV, repsV, List.append_nil, List.nil_append, if_pos, if_neg, reduceIte, List.getElem?_map, List.getElem?_drop, Nat.add_zero, List.getElem?_eq_getElem, Go.IntWalk.i64_in, wrap_u64, tmod_pos, eq_self, true_and, and_true, and_self, List.all_cons, List.all_nil, nmL_vi, flV_len, flP_len, flV_nm, flV_ok, flV_pv, flP_map, drop_flP, drop_flV, putC_flV, eqV2, eqV3, bneT, bneF, decide_true, decide_false, frzL_vi, frzL_flV, nmE_ag, nmE_at, frzE_ag, frzE_at, ofAg_len, ofAt_len, atL_vi, nmL_map_p, frzL_map_p, okL_p, toPVs_p, repsZ, nmL_reps, putC_vi, get_flV0, get_flV1, Int.toNat_zero, Int.toNat_one, Int.reduceToNat, eqV_slice, eqV_ptr, eqV_func, nilS, nilP, nilF, nmL_append, okL_vi, toPVs_vi, toPVs, toPV, frzV, frzL, frzB, resVV, vi, vb, nilV, sl1, bl1, pi, foldV, max2, min2, max_eq, min_eq, Int.tdiv_eq_ediv_of_nonneg, Int.cast_ofNat_Int, Option.isSome_none, Option.isSome_some, Option.isNone_none, Option.isNone_some, and_false, false_and, sl2, sl1P, slP, min_cast, take_map_pi, map_pi, Nat.sub_zero, Nat.zero_mul, List.length_take, decide_eq_true, decide_eq_false, Bool.true_eq_false, Bool.false_eq_true, beqT, beqF, ibeq, ibne, List.take_zero, List.take_succ_cons, List.drop_zero, List.drop_succ_cons, List.drop_nil, List.take_nil, List.cons_append, Bool.not_true, Bool.not_false]))); rfl))
  (repeat (first | refine VC.seq ?_ | refine VC.block ?_ | refine VC.kill ?_ | refine VC.skip ?_ | refine VC.exit ?_ | refine VC.regA ?_ | refine VC.condT ?_ | refine VC.condF ?_))
  refine VC.ret (Fin.A ?_); simp [isS, h1, h2, h3, h4]; rfl
end
end Go.Ab.Jug

namespace Go.Ab.Jug
open Go.Ab.V
set_option maxRecDepth 100000
def atQ (l : List Int) (i : Int) : Int := l.getD i.toNat 0
def doS (q f : List Int) (a b : Int) : List Int :=
  if a = -1 then f.set b.toNat (atQ q b) else if b = -1 then f.set a.toNat 0
  else (f.set a.toNat (atQ f a - min (atQ f a) (atQ q b - atQ f b))).set b.toNat (atQ f b + min (atQ f a) (atQ q b - atQ f b))
section
variable {n : Nat} {q0 q1 q2 q3 f0 f1 f2 f3 : Int} {c : Bool} {a b : Int}
set_option maxHeartbeats 4000000 in
theorem do_ok (ha : -1 ≤ a ∧ a < 4) (hb : -1 ≤ b ∧ b < 4) (hab : a ≠ b) (h0 : 0 ≤ f0 ∧ f0 ≤ q0 ∧ q0 ≤ 12) (h1 : 0 ≤ f1 ∧ f1 ≤ q1 ∧ q1 ≤ 12) (h2 : 0 ≤ f2 ∧ f2 ≤ q2 ∧ q2 ≤ 12) (h3 : 0 ≤ f3 ∧ f3 ≤ q3 ∧ q3 ≤ 12) :
    VCall cfg 62 [ag2 a b, .p (.fp 0 (jugQ n q0 q1 q2 q3 c)), ag4 f0 f1 f2 f3] [] [] (.agg ((doS [q0, q1, q2, q3] [f0, f1, f2, f3] a b).map vi)) [] := by
  (refine VCall.mk (fn := a62) rfl rfl rfl ?_; simp only [a62, inV, mkB, nmsL, PT.set])
  simp only [ag2, ag4, jugQ]
  by_cases hA : a = -1
  · subst hA
    obtain rfl | rfl | rfl | rfl : b = 0 ∨ b = 1 ∨ b = 2 ∨ b = 3 := by omega
    all_goals
      (repeat (first | refine VC.seq ?_ | refine VC.block ?_ | refine VC.kill ?_ | refine VC.skip ?_ | refine VC.exit ?_ | refine VC.regA ?_ | refine VC.condT ?_ | refine VC.condF ?_))
      exact VC.ret (Fin.A (hys := rfl) rfl)
  by_cases hB : b = -1
  · subst hB
    obtain rfl | rfl | rfl | rfl : a = 0 ∨ a = 1 ∨ a = 2 ∨ a = 3 := by omega
    all_goals
      (repeat (first | refine VC.seq ?_ | refine VC.block ?_ | refine VC.kill ?_ | refine VC.skip ?_ | refine VC.exit ?_ | refine VC.regA ?_ | refine VC.condT ?_ | refine VC.condF ?_))
      exact VC.ret (Fin.A (hys := rfl) rfl)
  obtain rfl | rfl | rfl | rfl : a = 0 ∨ a = 1 ∨ a = 2 ∨ a = 3 := by omega
  · obtain rfl | rfl | rfl : b = 1 ∨ b = 2 ∨ b = 3 := by omega
    all_goals
      (repeat (first | refine VC.seq ?_ | refine VC.block ?_ | refine VC.kill ?_ | refine VC.skip ?_ | refine VC.exit ?_ | refine VC.regA ?_ | refine VC.condT ?_ | refine VC.condF ?_))
      exact VC.ret (Fin.A (hys := rfl) rfl)
  · obtain rfl | rfl | rfl : b = 0 ∨ b = 2 ∨ b = 3 := by omega
    all_goals
      (repeat (first | refine VC.seq ?_ | refine VC.block ?_ | refine VC.kill ?_ | refine VC.skip ?_ | refine VC.exit ?_ | refine VC.regA ?_ | refine VC.condT ?_ | refine VC.condF ?_))
      exact VC.ret (Fin.A (hys := rfl) rfl)
  · obtain rfl | rfl | rfl : b = 0 ∨ b = 1 ∨ b = 3 := by omega
    all_goals
      (repeat (first | refine VC.seq ?_ | refine VC.block ?_ | refine VC.kill ?_ | refine VC.skip ?_ | refine VC.exit ?_ | refine VC.regA ?_ | refine VC.condT ?_ | refine VC.condF ?_))
      exact VC.ret (Fin.A (hys := rfl) rfl)
  · obtain rfl | rfl | rfl : b = 0 ∨ b = 1 ∨ b = 2 := by omega
    all_goals
      (repeat (first | refine VC.seq ?_ | refine VC.block ?_ | refine VC.kill ?_ | refine VC.skip ?_ | refine VC.exit ?_ | refine VC.regA ?_ | refine VC.condT ?_ | refine VC.condF ?_))
      exact VC.ret (Fin.A (hys := rfl) rfl)
end
end Go.Ab.Jug

namespace Go.Ab.Jug
open Go.Ab.V
set_option maxRecDepth 100000
end Go.Ab.Jug

namespace Go.Ab.Jug
open Go.Ab.V
set_option maxRecDepth 100000
def itemS (n : Nat) (q f : List Int) (c : Bool) (a b : Int) : List (List VV) := if isS n c a b = true ∧ doS q f a b ≠ f then [[ag2 a b, .agg ((doS q f a b).map vi)]] else []
def rowS (n : Nat) (q f : List Int) (c : Bool) (a : Int) : Nat → List (List VV)
  | 0 => []
  | m + 1 => itemS n q f c a ((n : Int) - ((m + 1 : Nat) : Int)) ++ rowS n q f c a m
def allS (n : Nat) (q f : List Int) (c : Bool) : Nat → List (List VV)
  | 0 => []
  | k + 1 => rowS n q f c ((n : Int) - ((k + 1 : Nat) : Int)) (n + 1) ++ allS n q f c k
section
variable {n : Nat} {q0 q1 q2 q3 f0 f1 f2 f3 : Int} {c : Bool}
theorem eqV4 {a0 a1 a2 a3 b0 b1 b2 b3 : Int} : eqV (.cells [.int, .int, .int, .int]) (.agg [.p (.at (.int .i64 a0)), .p (.at (.int .i64 a1)), .p (.at (.int .i64 a2)), .p (.at (.int .i64 a3))]) (.agg [.p (.at (.int .i64 b0)), .p (.at (.int .i64 b1)), .p (.at (.int .i64 b2)), .p (.at (.int .i64 b3))]) = some (decide ([a0, a1, a2, a3] = [b0, b1, b2, b3])) := by
  show some ((a0 == b0) && ((a1 == b1) && ((a2 == b2) && ((a3 == b3) && true)))) = _
  congr 1
  rw [Bool.eq_iff_iff]
  simp
set_option maxHeartbeats 4000000 in
theorem steps1_ok (hn : n ≤ 4) (h0 : 0 ≤ f0 ∧ f0 ≤ q0 ∧ q0 ≤ 12) (h1 : 0 ≤ f1 ∧ f1 ≤ q1 ∧ q1 ≤ 12) (h2 : 0 ≤ f2 ∧ f2 ≤ q2 ∧ q2 ≤ 12) (h3 : 0 ≤ f3 ∧ f3 ≤ q3 ∧ q3 ≤ 12) :
    VIter cfg 65 [] [.p (.fp 0 [.fp 0 (jugQ n q0 q1 q2 q3 c)]), .p (.fp 0 [pi f0, pi f1, pi f2, pi f3])] false (allS n [q0, q1, q2, q3] [f0, f1, f2, f3] c (n + 1)) := by
  refine VIter.mk (fn := a65) rfl rfl rfl fun kk => ?_
  simp only [a65, inV, PT.set, List.nil_append, List.cons_append]
  (repeat (first | refine VC.seq ?_ | refine VC.block ?_ | refine VC.kill ?_ | refine VC.skip ?_ | refine VC.exit ?_ | refine VC.regA ?_ | refine VC.condT ?_ | refine VC.condF ?_))
  refine VC.loopG (fun (k : Nat) => ⟨inV [p0, p1, p2, p4] [.yl kk, .p (.fp 0 [.fp 0 (jugQ n q0 q1 q2 q3 c)]), .p (.fp 0 [pi f0, pi f1, pi f2, pi f3]), vi ((n : Int) - (k : Int))] .lf, .lf, [], some ⟨kk, allS n [q0, q1, q2, q3] [f0, f1, f2, f3] c k, true, false⟩⟩) (fun m k => m = k ∧ k ≤ n + 1) (x := n + 1) ?_ ⟨rfl, by omega⟩ ?_
  · (apply Go.Ab.V.G.weak; constructor <;> simp (config := {decide := true}) only [PT.Le, inV, mkB, PT.set, VSt.kill, VSt.adopt, VSt.alloc, PT.filt, PT.map, List.map_cons, List.map_nil, noref, norefB, deadB, deadV, nos, nm, nmL, nmB, nmE, Pa.eqb, cond_true, cond_false, Bool.not_true, Bool.not_false, Bool.and_true, Bool.true_and, nmL_vi, flV_len, flP_len, flV_nm, flV_ok, flV_pv, flP_map, drop_flP, drop_flV, putC_flV, eqV2, eqV3, bneT, bneF, decide_true, decide_false, frzL_vi, frzL_flV, nmE_ag, nmE_at, frzE_ag, frzE_at, ofAg_len, ofAt_len, atL_vi, nmL_map_p, frzL_map_p, okL_p, toPVs_p, repsZ, nmL_reps, putC_vi, get_flV0, get_flV1, Int.toNat_zero, Int.toNat_one, Int.reduceToNat, eqV_slice, eqV_ptr, eqV_func, nilS, nilP, nilF, nmL_append, true_or, or_true, and_self, true_and, and_true, Option.some.injEq, reduceCtorEq, false_or, or_false, VV.p.injEq, PV.at.injEq, Value.int.injEq, sl1, vi, bl1, vb, nilV, pi, jugQ])
    all_goals omega
  rintro m k ⟨hm, hk⟩
  simp only [inV, PT.set, jugQ]
  (repeat (first | refine VC.seq ?_ | refine VC.block ?_ | refine VC.kill ?_ | refine VC.skip ?_ | refine VC.exit ?_ | refine VC.regA ?_ | refine VC.condT ?_ | refine VC.condF ?_))
  refine VC.condA ?_ ?_ <;> intro h <;> (simp only [decide_eq_true_eq, decide_eq_false_iff_not, bne_iff_ne, ne_eq, bne_eq_false_iff_eq, beq_iff_eq, beq_eq_false_iff_ne, Bool.not_eq_true', Bool.not_eq_false', Bool.and_eq_true, Bool.or_eq_true, Int.natCast_inj] at h)
  · obtain ⟨k, rfl⟩ : ∃ j, k = j + 1 := ⟨k - 1, by omega⟩
    (repeat (first | refine VC.seq ?_ | refine VC.block ?_ | refine VC.kill ?_ | refine VC.skip ?_ | refine VC.exit ?_ | refine VC.regA ?_ | refine VC.condT ?_ | refine VC.condF ?_))
    have hA : -1 ≤ (n : Int) - ((k + 1 : Nat) : Int) ∧ (n : Int) - ((k + 1 : Nat) : Int) < n := by omega
    have hall : allS n [q0, q1, q2, q3] [f0, f1, f2, f3] c (k + 1) = rowS n [q0, q1, q2, q3] [f0, f1, f2, f3] c ((n : Int) - ((k + 1 : Nat) : Int)) (n + 1) ++ allS n [q0, q1, q2, q3] [f0, f1, f2, f3] c k := rfl
    generalize hAa : (n : Int) - ((k + 1 : Nat) : Int) = A at *
    rw [hall]
    refine VC.loopG (fun (m : Nat) => ⟨inV [p0, p1, p2, p4, p5] [.yl kk, .p (.fp 0 [.fp 0 (jugQ n q0 q1 q2 q3 c)]), .p (.fp 0 [pi f0, pi f1, pi f2, pi f3]), vi A, vi ((n : Int) - (m : Int))] .lf, .lf, [], some ⟨kk, rowS n [q0, q1, q2, q3] [f0, f1, f2, f3] c A m ++ allS n [q0, q1, q2, q3] [f0, f1, f2, f3] c k, true, false⟩⟩) (fun m' m => m' = m ∧ m ≤ n + 1) (x := n + 1) ?_ ⟨rfl, by omega⟩ ?_
    · (apply Go.Ab.V.G.weak; constructor <;> simp (config := {decide := true}) only [PT.Le, inV, mkB, PT.set, VSt.kill, VSt.adopt, VSt.alloc, PT.filt, PT.map, List.map_cons, List.map_nil, noref, norefB, deadB, deadV, nos, nm, nmL, nmB, nmE, Pa.eqb, cond_true, cond_false, Bool.not_true, Bool.not_false, Bool.and_true, Bool.true_and, nmL_vi, flV_len, flP_len, flV_nm, flV_ok, flV_pv, flP_map, drop_flP, drop_flV, putC_flV, eqV2, eqV3, bneT, bneF, decide_true, decide_false, frzL_vi, frzL_flV, nmE_ag, nmE_at, frzE_ag, frzE_at, ofAg_len, ofAt_len, atL_vi, nmL_map_p, frzL_map_p, okL_p, toPVs_p, repsZ, nmL_reps, putC_vi, get_flV0, get_flV1, Int.toNat_zero, Int.toNat_one, Int.reduceToNat, eqV_slice, eqV_ptr, eqV_func, nilS, nilP, nilF, nmL_append, true_or, or_true, and_self, true_and, and_true, Option.some.injEq, reduceCtorEq, false_or, or_false, VV.p.injEq, PV.at.injEq, Value.int.injEq, sl1, vi, bl1, vb, nilV, pi, jugQ])
      all_goals omega
    rintro m' m ⟨hm', hmm⟩
    simp only [inV, PT.set, jugQ]
    (repeat (first | refine VC.seq ?_ | refine VC.block ?_ | refine VC.kill ?_ | refine VC.skip ?_ | refine VC.exit ?_ | refine VC.regA ?_ | refine VC.condT ?_ | refine VC.condF ?_))
    refine VC.condA ?_ ?_ <;> intro h' <;> (simp only [decide_eq_true_eq, decide_eq_false_iff_not, bne_iff_ne, ne_eq, bne_eq_false_iff_eq, beq_iff_eq, beq_eq_false_iff_ne, Bool.not_eq_true', Bool.not_eq_false', Bool.and_eq_true, Bool.or_eq_true, Int.natCast_inj] at h')
    · obtain ⟨m, rfl⟩ : ∃ j, m = j + 1 := ⟨m - 1, by omega⟩
      have hB : -1 ≤ (n : Int) - ((m + 1 : Nat) : Int) ∧ (n : Int) - ((m + 1 : Nat) : Int) < n := by omega
      have hrow : rowS n [q0, q1, q2, q3] [f0, f1, f2, f3] c A (m + 1) = itemS n [q0, q1, q2, q3] [f0, f1, f2, f3] c A ((n : Int) - ((m + 1 : Nat) : Int)) ++ rowS n [q0, q1, q2, q3] [f0, f1, f2, f3] c A m := rfl
      rw [hrow]
      generalize hBb : (n : Int) - ((m + 1 : Nat) : Int) = B at *
      have k1 := is_ok (n := n) (q0 := q0) (q1 := q1) (q2 := q2) (q3 := q3) (c := c) (a := A) (b := B) (by omega) (by omega) hn
      simp only [jugQ, ag2] at k1
      cases hs : isS n c A B with
      | false =>
        rw [hs] at k1
        have : itemS n [q0, q1, q2, q3] [f0, f1, f2, f3] c A B = [] := by simp [itemS, hs]
        rw [this]
        (repeat (first | refine VC.seq ?_ | refine VC.block ?_ | refine VC.kill ?_ | refine VC.skip ?_ | refine VC.exit ?_ | refine VC.regA ?_ | refine VC.condT ?_ | refine VC.condF ?_))
        refine VC.regCA ?_
        refine VO.moreA ?_
        refine VO.call0A (no_orc 61 (by decide)) k1 ?_
        refine VO.endA ?_
        (repeat (first | refine VC.seq ?_ | refine VC.block ?_ | refine VC.kill ?_ | refine VC.skip ?_ | refine VC.exit ?_ | refine VC.regA ?_ | refine VC.condT ?_ | refine VC.condF ?_))
        refine ⟨_, m, ?_, ⟨rfl, by omega⟩, ?_⟩
        · omega
        · (apply Go.Ab.V.G.weak; constructor <;> simp (config := {decide := true}) only [PT.Le, inV, mkB, PT.set, VSt.kill, VSt.adopt, VSt.alloc, PT.filt, PT.map, List.map_cons, List.map_nil, noref, norefB, deadB, deadV, nos, nm, nmL, nmB, nmE, Pa.eqb, cond_true, cond_false, Bool.not_true, Bool.not_false, Bool.and_true, Bool.true_and, nmL_vi, flV_len, flP_len, flV_nm, flV_ok, flV_pv, flP_map, drop_flP, drop_flV, putC_flV, eqV2, eqV3, bneT, bneF, decide_true, decide_false, frzL_vi, frzL_flV, nmE_ag, nmE_at, frzE_ag, frzE_at, ofAg_len, ofAt_len, atL_vi, nmL_map_p, frzL_map_p, okL_p, toPVs_p, repsZ, nmL_reps, putC_vi, get_flV0, get_flV1, Int.toNat_zero, Int.toNat_one, Int.reduceToNat, eqV_slice, eqV_ptr, eqV_func, nilS, nilP, nilF, nmL_append, true_or, or_true, and_self, true_and, and_true, Option.some.injEq, reduceCtorEq, false_or, or_false, VV.p.injEq, PV.at.injEq, Value.int.injEq, sl1, vi, bl1, vb, nilV, pi, jugQ])
          all_goals omega
      | true =>
        rw [hs] at k1
        have hab : A ≠ B := by intro e; simp [isS, e] at hs
        have k2 := do_ok (n := n) (c := c) (a := A) (b := B) (by omega) (by omega) hab h0 h1 h2 h3
        obtain ⟨g0, g1, g2, g3, hg⟩ : ∃ g0 g1 g2 g3, doS [q0, q1, q2, q3] [f0, f1, f2, f3] A B = [g0, g1, g2, g3] := by
          have hl : (doS [q0, q1, q2, q3] [f0, f1, f2, f3] A B).length = 4 := by unfold doS; split <;> (try split) <;> simp
          generalize doS [q0, q1, q2, q3] [f0, f1, f2, f3] A B = P at hl
          rcases P with _ | ⟨a, _ | ⟨b, _ | ⟨d, _ | ⟨e, _ | ⟨f, r⟩⟩⟩⟩⟩ <;> first | exact ⟨_, _, _, _, rfl⟩ | simp at hl
        have hit : itemS n [q0, q1, q2, q3] [f0, f1, f2, f3] c A B = if [g0, g1, g2, g3] ≠ [f0, f1, f2, f3] then [[.agg [vi A, vi B], .agg [vi g0, vi g1, vi g2, vi g3]]] else [] := by
          simp only [itemS, hs, hg, true_and]; rfl
        rw [hg] at k2
        simp only [jugQ, ag2, ag4, List.map_cons, List.map_nil] at k2
        rw [hit]
        (repeat (first | refine VC.seq ?_ | refine VC.block ?_ | refine VC.kill ?_ | refine VC.skip ?_ | refine VC.exit ?_ | refine VC.regA ?_ | refine VC.condT ?_ | refine VC.condF ?_))
        refine VC.regCA ?_
        refine VO.moreA ?_
        refine VO.call0A (no_orc 61 (by decide)) k1 ?_
        refine VO.endA ?_
        (repeat (first | refine VC.seq ?_ | refine VC.block ?_ | refine VC.kill ?_ | refine VC.skip ?_ | refine VC.exit ?_ | refine VC.regA ?_ | refine VC.condT ?_ | refine VC.condF ?_))
        refine VC.regCA ?_
        refine VO.moreA ?_
        refine VO.call0A (no_orc 62 (by decide)) k2 ?_
        refine VO.endA ?_
        (repeat (first | refine VC.seq ?_ | refine VC.block ?_ | refine VC.kill ?_ | refine VC.skip ?_ | refine VC.exit ?_ | refine VC.regA ?_ | refine VC.condT ?_ | refine VC.condF ?_))
        have bT : (true != true) = false := rfl
        have bF : (false != true) = true := rfl
        by_cases hd : [g0, g1, g2, g3] = [f0, f1, f2, f3]
        · have e4 := eqV4 (a0 := g0) (a1 := g1) (a2 := g2) (a3 := g3) (b0 := f0) (b1 := f1) (b2 := f2) (b3 := f3)
          rw [decide_eq_true hd] at e4
          rw [if_neg (fun h => h hd)]
          apply VC.regU
          · (simp (config := {decide := false, maxSteps := 1000000}) (disch := omega) only [vev_call, putC_c0, putC_n0, putC_cs, ble0, List.getElem?_cons_zero, List.getElem?_cons_succ, runU, isCall, wantV, vev, evV, ofVal, ofAtom, atomB, cond_true, cond_false, PT.get, PT.set, PT.filt, PT.map, Option.getD_some, Option.getD_none, ret1V, ret1X, v_ld, v_ias, v_iad, v_fad, v_slsl, v_slarr, v_st, v_app, v_cpy, v_len, v_look, v_mset, elsV, partV, newV, free, atV, atI, atL, toVal, cellsV, okV, VSt.put, VSt.kill, VSt.alloc, VSt.frz, VSt.adopt, noref, norefB, deadB, deadV, nos, nm, nmL, nmB, nmE, Pa.eqb, Bool.not_false, Bool.not_true, Bool.and_true, Bool.true_and, Bool.false_and, Bool.and_false, bin, intOps, intBin, cvt, un, goInt, bndsV, bndV, Option.map_some, Option.map_none, List.map_cons, List.map_nil, Int.toNat_natCast, Nat.mul_one, Nat.zero_add, beq_true, beq_false, beq_self_eq_true, List.length_map, List.length_cons, List.length_nil, List.length_append, fillV, pEvV, repsV, List.append_nil, List.nil_append, if_pos, if_neg, reduceIte, List.getElem?_map, List.getElem?_drop, Nat.add_zero, List.getElem?_eq_getElem, Go.IntWalk.i64_in, wrap_u64, tmod_pos, eq_self, true_and, and_true, and_self, List.all_cons, List.all_nil, nmL_vi, flV_len, flP_len, flV_nm, flV_ok, flV_pv, flP_map, drop_flP, drop_flV, putC_flV, eqV2, eqV3, bneT, bneF, decide_true, decide_false, frzL_vi, frzL_flV, nmE_ag, nmE_at, frzE_ag, frzE_at, ofAg_len, ofAt_len, atL_vi, nmL_map_p, frzL_map_p, okL_p, toPVs_p, repsZ, nmL_reps, putC_vi, get_flV0, get_flV1, Int.toNat_zero, Int.toNat_one, Int.reduceToNat, eqV_slice, eqV_ptr, eqV_func, nilS, nilP, nilF, nmL_append, okL_vi, toPVs_vi, toPVs, toPV, frzV, frzL, frzB, resVV, vi, vb, nilV, sl1, bl1, pi, foldV, max2, min2, max_eq, min_eq, Int.tdiv_eq_ediv_of_nonneg, Int.cast_ofNat_Int, Option.isSome_none, Option.isSome_some, Option.isNone_none, Option.isNone_some, and_false, false_and, sl2, sl1P, slP, min_cast, take_map_pi, map_pi, Nat.sub_zero, Nat.zero_mul, List.length_take, decide_eq_true, decide_eq_false, Bool.true_eq_false, Bool.false_eq_true, beqT, beqF, ibeq, ibne, List.take_zero, List.take_succ_cons, List.drop_zero, List.drop_succ_cons, List.drop_nil, List.take_nil, List.cons_append, Bool.not_true, Bool.not_false, e4, bT, bF])
            rfl
          (repeat (first | refine VC.seq ?_ | refine VC.block ?_ | refine VC.kill ?_ | refine VC.skip ?_ | refine VC.exit ?_ | refine VC.regA ?_ | refine VC.condT ?_ | refine VC.condF ?_))
          refine ⟨_, m, ?_, ⟨rfl, by omega⟩, ?_⟩
          · omega
          · (apply Go.Ab.V.G.weak; constructor <;> simp (config := {decide := true}) only [PT.Le, inV, mkB, PT.set, VSt.kill, VSt.adopt, VSt.alloc, PT.filt, PT.map, List.map_cons, List.map_nil, noref, norefB, deadB, deadV, nos, nm, nmL, nmB, nmE, Pa.eqb, cond_true, cond_false, Bool.not_true, Bool.not_false, Bool.and_true, Bool.true_and, nmL_vi, flV_len, flP_len, flV_nm, flV_ok, flV_pv, flP_map, drop_flP, drop_flV, putC_flV, eqV2, eqV3, bneT, bneF, decide_true, decide_false, frzL_vi, frzL_flV, nmE_ag, nmE_at, frzE_ag, frzE_at, ofAg_len, ofAt_len, atL_vi, nmL_map_p, frzL_map_p, okL_p, toPVs_p, repsZ, nmL_reps, putC_vi, get_flV0, get_flV1, Int.toNat_zero, Int.toNat_one, Int.reduceToNat, eqV_slice, eqV_ptr, eqV_func, nilS, nilP, nilF, nmL_append, true_or, or_true, and_self, true_and, and_true, Option.some.injEq, reduceCtorEq, false_or, or_false, VV.p.injEq, PV.at.injEq, Value.int.injEq, sl1, vi, bl1, vb, nilV, pi, jugQ])
            all_goals omega
        · have e4 := eqV4 (a0 := g0) (a1 := g1) (a2 := g2) (a3 := g3) (b0 := f0) (b1 := f1) (b2 := f2) (b3 := f3)
          rw [decide_eq_false hd] at e4
          rw [if_pos hd]
          apply VC.regC
          · (simp (config := {decide := false, maxSteps := 1000000}) (disch := omega) only [vev_call, putC_c0, putC_n0, putC_cs, ble0, List.getElem?_cons_zero, List.getElem?_cons_succ, runU, isCall, wantV, vev, evV, ofVal, ofAtom, atomB, cond_true, cond_false, PT.get, PT.set, PT.filt, PT.map, Option.getD_some, Option.getD_none, ret1V, ret1X, v_ld, v_ias, v_iad, v_fad, v_slsl, v_slarr, v_st, v_app, v_cpy, v_len, v_look, v_mset, elsV, partV, newV, free, atV, atI, atL, toVal, cellsV, okV, VSt.put, VSt.kill, VSt.alloc, VSt.frz, VSt.adopt, noref, norefB, deadB, deadV, nos, nm, nmL, nmB, nmE, Pa.eqb, Bool.not_false, Bool.not_true, Bool.and_true, Bool.true_and, Bool.false_and, Bool.and_false, bin, intOps, intBin, cvt, un, goInt, bndsV, bndV, Option.map_some, Option.map_none, List.map_cons, List.map_nil, Int.toNat_natCast, Nat.mul_one, Nat.zero_add, beq_true, beq_false, beq_self_eq_true, List.length_map, List.length_cons, List.length_nil, List.length_append, fillV, pEvV, repsV, List.append_nil, List.nil_append, if_pos, if_neg, reduceIte, List.getElem?_map, List.getElem?_drop, Nat.add_zero, List.getElem?_eq_getElem, Go.IntWalk.i64_in, wrap_u64, tmod_pos, eq_self, true_and, and_true, and_self, List.all_cons, List.all_nil, nmL_vi, flV_len, flP_len, flV_nm, flV_ok, flV_pv, flP_map, drop_flP, drop_flV, putC_flV, eqV2, eqV3, bneT, bneF, decide_true, decide_false, frzL_vi, frzL_flV, nmE_ag, nmE_at, frzE_ag, frzE_at, ofAg_len, ofAt_len, atL_vi, nmL_map_p, frzL_map_p, okL_p, toPVs_p, repsZ, nmL_reps, putC_vi, get_flV0, get_flV1, Int.toNat_zero, Int.toNat_one, Int.reduceToNat, eqV_slice, eqV_ptr, eqV_func, nilS, nilP, nilF, nmL_append, okL_vi, toPVs_vi, toPVs, toPV, frzV, frzL, frzB, resVV, vi, vb, nilV, sl1, bl1, pi, foldV, max2, min2, max_eq, min_eq, Int.tdiv_eq_ediv_of_nonneg, Int.cast_ofNat_Int, Option.isSome_none, Option.isSome_some, Option.isNone_none, Option.isNone_some, and_false, false_and, sl2, sl1P, slP, min_cast, take_map_pi, map_pi, Nat.sub_zero, Nat.zero_mul, List.length_take, decide_eq_true, decide_eq_false, Bool.true_eq_false, Bool.false_eq_true, beqT, beqF, ibeq, ibne, List.take_zero, List.take_succ_cons, List.drop_zero, List.drop_succ_cons, List.drop_nil, List.take_nil, List.cons_append, Bool.not_true, Bool.not_false, e4, bT, bF])
            rfl
          refine VO.yieldA fun b _ => ?_
          cases b with
          | false =>
            refine VO.endA ?_
            (repeat (first | refine VC.seq ?_ | refine VC.block ?_ | refine VC.kill ?_ | refine VC.skip ?_ | refine VC.exit ?_ | refine VC.regA ?_ | refine VC.condT ?_ | refine VC.condF ?_))
            exact VC.ret ⟨rfl, _, _, rfl, .inl rfl⟩
          | true =>
            refine VO.endA ?_
            (repeat (first | refine VC.seq ?_ | refine VC.block ?_ | refine VC.kill ?_ | refine VC.skip ?_ | refine VC.exit ?_ | refine VC.regA ?_ | refine VC.condT ?_ | refine VC.condF ?_))
            refine ⟨_, m, ?_, ⟨rfl, by omega⟩, ?_⟩
            · omega
            · (apply Go.Ab.V.G.weak; constructor <;> simp (config := {decide := true}) only [PT.Le, inV, mkB, PT.set, VSt.kill, VSt.adopt, VSt.alloc, PT.filt, PT.map, List.map_cons, List.map_nil, noref, norefB, deadB, deadV, nos, nm, nmL, nmB, nmE, Pa.eqb, cond_true, cond_false, Bool.not_true, Bool.not_false, Bool.and_true, Bool.true_and, nmL_vi, flV_len, flP_len, flV_nm, flV_ok, flV_pv, flP_map, drop_flP, drop_flV, putC_flV, eqV2, eqV3, bneT, bneF, decide_true, decide_false, frzL_vi, frzL_flV, nmE_ag, nmE_at, frzE_ag, frzE_at, ofAg_len, ofAt_len, atL_vi, nmL_map_p, frzL_map_p, okL_p, toPVs_p, repsZ, nmL_reps, putC_vi, get_flV0, get_flV1, Int.toNat_zero, Int.toNat_one, Int.reduceToNat, eqV_slice, eqV_ptr, eqV_func, nilS, nilP, nilF, nmL_append, true_or, or_true, and_self, true_and, and_true, Option.some.injEq, reduceCtorEq, false_or, or_false, VV.p.injEq, PV.at.injEq, Value.int.injEq, sl1, vi, bl1, vb, nilV, pi, jugQ])
              all_goals omega
    · have : m = 0 := by omega
      subst this
      simp only [rowS, List.nil_append]
      (repeat (first | refine VC.seq ?_ | refine VC.block ?_ | refine VC.kill ?_ | refine VC.skip ?_ | refine VC.exit ?_ | refine VC.regA ?_ | refine VC.condT ?_ | refine VC.condF ?_))
      refine ⟨_, k, ?_, ⟨rfl, by omega⟩, ?_⟩
      · omega
      · (apply Go.Ab.V.G.weak; constructor <;> simp (config := {decide := true}) only [PT.Le, inV, mkB, PT.set, VSt.kill, VSt.adopt, VSt.alloc, PT.filt, PT.map, List.map_cons, List.map_nil, noref, norefB, deadB, deadV, nos, nm, nmL, nmB, nmE, Pa.eqb, cond_true, cond_false, Bool.not_true, Bool.not_false, Bool.and_true, Bool.true_and, nmL_vi, flV_len, flP_len, flV_nm, flV_ok, flV_pv, flP_map, drop_flP, drop_flV, putC_flV, eqV2, eqV3, bneT, bneF, decide_true, decide_false, frzL_vi, frzL_flV, nmE_ag, nmE_at, frzE_ag, frzE_at, ofAg_len, ofAt_len, atL_vi, nmL_map_p, frzL_map_p, okL_p, toPVs_p, repsZ, nmL_reps, putC_vi, get_flV0, get_flV1, Int.toNat_zero, Int.toNat_one, Int.reduceToNat, eqV_slice, eqV_ptr, eqV_func, nilS, nilP, nilF, nmL_append, true_or, or_true, and_self, true_and, and_true, Option.some.injEq, reduceCtorEq, false_or, or_false, VV.p.injEq, PV.at.injEq, Value.int.injEq, sl1, vi, bl1, vb, nilV, pi, jugQ])
        all_goals omega
  · have : k = 0 := by omega
    subst this
    (repeat (first | refine VC.seq ?_ | refine VC.block ?_ | refine VC.kill ?_ | refine VC.skip ?_ | refine VC.exit ?_ | refine VC.regA ?_ | refine VC.condT ?_ | refine VC.condF ?_))
    exact ⟨rfl, _, _, rfl, .inr ⟨rfl, trivial⟩⟩
end
end Go.Ab.Jug

namespace Go.Ab.Jug
open Go.Ab.V
set_option maxRecDepth 100000
section
variable {n : Nat} {q0 q1 q2 q3 f0 f1 f2 f3 : Int} {c : Bool}
theorem steps_ok : VCall cfg 47 [.p (.fp 0 (jugQ n q0 q1 q2 q3 c)), ag4 f0 f1 f2 f3] [] [] (.clos 65 [] [.p (.fp 0 [.fp 0 (jugQ n q0 q1 q2 q3 c)]), .p (.fp 0 [pi f0, pi f1, pi f2, pi f3])]) [] := by
  (refine VCall.mk (fn := a47) rfl rfl rfl ?_; simp only [a47, inV, mkB, nmsL, PT.set])
  simp only [ag4, jugQ]
  (repeat (first | refine VC.seq ?_ | refine VC.block ?_ | refine VC.kill ?_ | refine VC.skip ?_ | refine VC.exit ?_ | refine VC.regA ?_ | refine VC.condT ?_ | refine VC.condF ?_))
  exact VC.ret (Fin.frzA p2 (hb := rfl) (hc := rfl) (Fin.frzA p3 (hb := rfl) (hc := rfl) (Fin.A rfl)))
end
end Go.Ab.Jug

namespace Go.Ab.Jug
open Go.Ab.V
set_option maxRecDepth 100000
end Go.Ab.Jug

namespace Go.Ab.Jug
open Go.Ab.V
set_option maxRecDepth 100000
/-- The reference's step. -/
def stepR (x f : List Int) (a b : Int) : List Int :=
  if a = -1 then f.set b.toNat (atQ x b) else if b = -1 then f.set a.toNat 0
  else (f.set a.toNat (atQ f a - min (atQ f a) (atQ x b - atQ f b))).set b.toNat (atQ f b + min (atQ f a) (atQ x b - atQ f b))
def isR (n : Nat) (a b : Int) : Bool := inR n a && inR n b && decide (a ≠ b)
end Go.Ab.Jug

namespace Go.Ab.Jug
open Go.Ab.V
set_option maxRecDepth 100000
end Go.Ab.Jug

namespace Go.Ab.Jug
end Go.Ab.Jug

namespace Go.Ab.Jug
open Go.Ab.V
set_option maxRecDepth 100000
end Go.Ab.Jug

namespace Go.Ab.Jug
open Go.Ab.V
set_option maxRecDepth 100000
def okR (x f : List Int) (c : Bool) (a b : Int) : Bool := !(c && (decide (a = -1) || decide (b = -1))) && isR x.length a b && !decide (f = stepR x f a b)
def itR (x f : List Int) (c : Bool) (a b : Int) : List (Int × Int) := if okR x f c a b = true then [(a, b)] else []
def rowR (x f : List Int) (c : Bool) (a : Int) : Nat → List (Int × Int)
  | 0 => []
  | m + 1 => itR x f c a ((x.length : Int) - ((m + 1 : Nat) : Int)) ++ rowR x f c a m
def allR (x f : List Int) (c : Bool) : Nat → List (Int × Int)
  | 0 => []
  | k + 1 => rowR x f c ((x.length : Int) - ((k + 1 : Nat) : Int)) (x.length + 1) ++ allR x f c k
theorem stepR_len (x f : List Int) (a b : Int) : (stepR x f a b).length = f.length := by
  unfold stepR; split
  · simp
  · split <;> simp
end Go.Ab.Jug

namespace Go.Ab.Jug
open Go.Ab.V
set_option maxRecDepth 100000
/-- The steps from a filling, with the fillings afterwards. -/
def itP (n : Nat) (q f : List Int) (c : Bool) (a b : Int) : List ((Int × Int) × List Int) := if isS n c a b = true ∧ doS q f a b ≠ f then [((a, b), doS q f a b)] else []
def rowP (n : Nat) (q f : List Int) (c : Bool) (a : Int) : Nat → List ((Int × Int) × List Int)
  | 0 => []
  | m + 1 => itP n q f c a ((n : Int) - ((m + 1 : Nat) : Int)) ++ rowP n q f c a m
def allP (n : Nat) (q f : List Int) (c : Bool) : Nat → List ((Int × Int) × List Int)
  | 0 => []
  | k + 1 => rowP n q f c ((n : Int) - ((k + 1 : Nat) : Int)) (n + 1) ++ allP n q f c k
def encI (p : (Int × Int) × List Int) : List VV := [ag2 p.1.1 p.1.2, .agg (p.2.map vi)]
theorem itS_eq (n : Nat) (q f : List Int) (c : Bool) (a b : Int) : itemS n q f c a b = (itP n q f c a b).map encI := by
  unfold itemS itP; split <;> rfl
theorem rowS_eq (n : Nat) (q f : List Int) (c : Bool) (a : Int) : ∀ m, rowS n q f c a m = (rowP n q f c a m).map encI
  | 0 => rfl
  | m + 1 => by rw [rowS, rowP, List.map_append, itS_eq, rowS_eq n q f c a m]
theorem allS_eq (n : Nat) (q f : List Int) (c : Bool) : ∀ k, allS n q f c k = (allP n q f c k).map encI
  | 0 => rfl
  | k + 1 => by rw [allS, allP, List.map_append, rowS_eq, allS_eq n q f c k]
theorem pad4_len (x : List Int) (h : x.length ≤ 4) : (pad4 x).length = 4 := by simp [pad4]; omega
theorem pad4_getD (x : List Int) (i : Nat) (h : i < x.length) : (pad4 x).getD i 0 = x.getD i 0 := by
  rw [List.getD_eq_getElem?_getD, List.getD_eq_getElem?_getD, pad4, List.getElem?_append_left h]
theorem pad4_set (x : List Int) (i : Nat) (v : Int) (h : i < x.length) : (pad4 x).set i v = pad4 (x.set i v) := by
  unfold pad4; rw [List.set_append_left _ _ h, List.length_set]
theorem pad4_inj {x y : List Int} (h : x.length = y.length) (e : pad4 x = pad4 y) : x = y := (List.append_inj e h).1
theorem doS_pad (x f : List Int) (a b : Int) (hf : f.length = x.length) (ha : -1 ≤ a ∧ a < x.length) (hb : -1 ≤ b ∧ b < x.length) (hab : a ≠ b) : doS (pad4 x) (pad4 f) a b = pad4 (stepR x f a b) := by
  unfold doS stepR atQ
  by_cases h1 : a = -1
  · rw [if_pos h1, if_pos h1, pad4_getD _ _ (by omega), pad4_set _ _ _ (by omega)]
  rw [if_neg h1, if_neg h1]
  by_cases h2 : b = -1
  · rw [if_pos h2, if_pos h2, pad4_set _ _ _ (by omega)]
  rw [if_neg h2, if_neg h2, pad4_getD _ _ (by omega), pad4_getD _ _ (by omega), pad4_getD _ _ (by omega), pad4_set _ _ _ (by omega), pad4_set _ _ _ (by rw [List.length_set]; omega)]
theorem isS_eq (n : Nat) (c : Bool) (a b : Int) : isS n c a b = (!(c && (decide (a = -1) || decide (b = -1))) && isR n a b) := by
  unfold isS isR
  cases c <;> simp [Bool.and_comm, Bool.and_assoc]
def encR (x f : List Int) (p : Int × Int) : (Int × Int) × List Int := (p, pad4 (stepR x f p.1 p.2))
theorem itP_eq (x f : List Int) (c : Bool) (a b : Int) (hf : f.length = x.length) (ha : -1 ≤ a ∧ a < x.length) (hb : -1 ≤ b ∧ b < x.length) : itP x.length (pad4 x) (pad4 f) c a b = (itR x f c a b).map (encR x f) := by
  unfold itP itR okR
  rw [isS_eq]
  cases h : (!(c && (decide (a = -1) || decide (b = -1))) && isR x.length a b) with
  | false => simp
  | true =>
    have hab : a ≠ b := by
      intro e; subst e; simp [isR] at h
    rw [doS_pad x f a b hf ha hb hab]
    by_cases hd : f = stepR x f a b
    · rw [if_neg (fun h => h.2 (by rw [← hd])), if_neg (by simp [← hd])]; rfl
    · rw [if_pos ⟨rfl, fun e => hd (pad4_inj (stepR_len ..) e).symm⟩, if_pos (by simp [hd])]; rfl
theorem rowP_eq (x f : List Int) (c : Bool) (a : Int) (hf : f.length = x.length) (ha : -1 ≤ a ∧ a < x.length) : ∀ m, m ≤ x.length + 1 → rowP x.length (pad4 x) (pad4 f) c a m = (rowR x f c a m).map (encR x f)
  | 0, _ => rfl
  | m + 1, h => by rw [rowP, rowR, List.map_append, rowP_eq x f c a hf ha m (by omega), itP_eq x f c a _ hf ha (by omega)]
theorem allP_eq (x f : List Int) (c : Bool) (hf : f.length = x.length) : ∀ k, k ≤ x.length + 1 → allP x.length (pad4 x) (pad4 f) c k = (allR x f c k).map (encR x f)
  | 0, _ => rfl
  | k + 1, h => by rw [allP, allR, List.map_append, allP_eq x f c hf k (by omega), rowP_eq x f c _ hf (by omega) _ (by omega)]
/-- The steps of jugs, as they are handed on. -/
def itemsJ (x f : List Int) (c : Bool) : List (List VV) := (allR x f c (x.length + 1)).map fun p => encI (encR x f p)
theorem four {P : List Int} (h : P.length = 4) : ∃ a b c d, P = [a, b, c, d] := by
  rcases P with _ | ⟨a, _ | ⟨b, _ | ⟨d, _ | ⟨e, _ | ⟨f, r⟩⟩⟩⟩⟩ <;> first | exact ⟨_, _, _, _, rfl⟩ | simp at h
theorem pad4_bd (x f : List Int) (hx : x.length ≤ 4) (hq : ∀ i ∈ x, 1 ≤ i ∧ i ≤ 12) (hf : fillB x f = true) (i : Nat) : 0 ≤ (pad4 f).getD i 0 ∧ (pad4 f).getD i 0 ≤ (pad4 x).getD i 0 ∧ (pad4 x).getD i 0 ≤ 12 := by
  rw [fillB_iff] at hf
  rcases Nat.lt_or_ge i x.length with h | h
  · have h' : i < f.length := by omega
    rw [pad4_getD _ _ h, pad4_getD _ _ h', List.getD_eq_getElem?_getD, List.getD_eq_getElem?_getD, List.getElem?_eq_getElem h, List.getElem?_eq_getElem h']
    have := hf.2 i h' h
    have := hq _ (List.getElem_mem h)
    simp only [Option.getD_some]; omega
  · have e : ∀ (y : List Int), y.length = x.length → (pad4 y).getD i 0 = 0 := by
      intro y hy
      rw [List.getD_eq_getElem?_getD, pad4, List.getElem?_append_right (by omega), List.getElem?_replicate]
      split <;> rfl
    rw [e x rfl, e f hf.1]; omega
/-- The iterator of the steps, by the lists themselves. -/
theorem stepsIt (x f : List Int) (c : Bool) (hx : x.length ≤ 4) (hq : ∀ i ∈ x, 1 ≤ i ∧ i ≤ 12) (hf : fillB x f = true) : VIter cfg 65 [] [.p (.fp 0 [.fp 0 (jugC x c)]), .p (.fp 0 ((pad4 f).map pi))] false (itemsJ x f c) := by
  have hl : f.length = x.length := ((fillB_iff x f).1 hf).1
  obtain ⟨q0, q1, q2, q3, hQ⟩ := four (pad4_len x hx)
  obtain ⟨f0, f1, f2, f3, hF⟩ := four (pad4_len f (by omega))
  have bd := pad4_bd x f hx hq hf
  rw [hQ, hF] at bd
  have b0 := bd 0; have b1 := bd 1; have b2 := bd 2; have b3 := bd 3
  simp at b0 b1 b2 b3
  have := steps1_ok (n := x.length) (c := c) (q0 := q0) (q1 := q1) (q2 := q2) (q3 := q3) (f0 := f0) (f1 := f1) (f2 := f2) (f3 := f3) hx (by omega) (by omega) (by omega) (by omega)
  rw [allS_eq, ← hQ, ← hF, allP_eq x f c hl _ (Nat.le_refl _), List.map_map] at this
  unfold jugC
  rw [hQ, hF]
  exact this
theorem stepsJ_ok (x f : List Int) (c : Bool) (hx : x.length ≤ 4) (hf : f.length = x.length) : VCall cfg 47 [jugP x c, .agg ((pad4 f).map vi)] [] [] (.clos 65 [] [.p (.fp 0 [.fp 0 (jugC x c)]), .p (.fp 0 ((pad4 f).map pi))]) [] := by
  obtain ⟨q0, q1, q2, q3, hQ⟩ := four (pad4_len x hx)
  obtain ⟨f0, f1, f2, f3, hF⟩ := four (pad4_len f (by omega))
  unfold jugP jugC
  rw [hQ, hF]
  exact steps_ok (n := x.length)
end Go.Ab.Jug

namespace Go.Ab.Jug
open Go.Ab.V
set_option maxRecDepth 100000
theorem isR_bd {n : Nat} {a b : Int} (h : isR n a b = true) : (-1 ≤ a ∧ a < n) ∧ (-1 ≤ b ∧ b < n) ∧ a ≠ b := by
  simp only [isR, inR, Bool.and_eq_true, decide_eq_true_eq] at h
  exact ⟨h.1.1, h.1.2, h.2⟩
theorem fillB_getD {x f : List Int} (hf : fillB x f = true) (i : Nat) : 0 ≤ f.getD i 0 ∧ f.getD i 0 ≤ x.getD i 0 := by
  rw [fillB_iff] at hf
  rcases Nat.lt_or_ge i x.length with h | h
  · have h' : i < f.length := by omega
    rw [List.getD_eq_getElem?_getD, List.getD_eq_getElem?_getD, List.getElem?_eq_getElem h, List.getElem?_eq_getElem h']
    exact hf.2 i h' h
  · rw [List.getD_eq_getElem?_getD, List.getD_eq_getElem?_getD, List.getElem?_eq_none h, List.getElem?_eq_none (by omega)]
    simp
theorem fillB_set {x f : List Int} (hf : fillB x f = true) (i : Nat) (v : Int) (h0 : 0 ≤ v) (h1 : v ≤ x.getD i 0) : fillB x (f.set i v) = true := by
  rw [fillB_iff] at hf ⊢
  refine ⟨by rw [List.length_set]; exact hf.1, fun k h h' => ?_⟩
  rw [List.length_set] at h
  rw [List.getElem_set]
  split
  · rename_i e
    subst e
    rw [List.getD_eq_getElem?_getD, List.getElem?_eq_getElem h'] at h1
    exact ⟨h0, h1⟩
  · exact hf.2 k h h'
theorem fill_step (x f : List Int) (a b : Int) (hf : fillB x f = true) (hab : a ≠ b) (ha : -1 ≤ a) (hb : -1 ≤ b) : fillB x (stepR x f a b) = true := by
  have g := fillB_getD hf
  have e : ∀ i, 0 ≤ x.getD i 0 := fun i => by have := g i; omega
  unfold stepR atQ
  split
  · exact fillB_set hf _ _ (e _) (Int.le_refl _)
  split
  · exact fillB_set hf _ _ (Int.le_refl _) (e _)
  · have g1 := g a.toNat
    have g2 := g b.toNat
    refine fillB_set (fillB_set hf _ _ ?_ ?_) _ _ ?_ ?_ <;> omega
/-- The filling after steps, as long as they are steps, and how many were done. -/
def pourR (x : List Int) : List Int → List (Int × Int) → List Int × Nat
  | f, [] => (f, 0)
  | f, p :: r => if isR x.length p.1 p.2 = true then ((pourR x (stepR x f p.1 p.2) r).1, (pourR x (stepR x f p.1 p.2) r).2 + 1) else (f, 0)
end Go.Ab.Jug

namespace Go.Ab.Jug
open Go.Ab.V
set_option maxRecDepth 100000
/-- What is known of a filling that is reached. -/
structure En where
  g : List Int
  par : List Int
  st : Int × Int
  d : Nat
def succs (x : List Int) (c : Bool) (f : List Int) : List ((Int × Int) × List Int) := (allR x f c (x.length + 1)).map fun p => (p, stepR x f p.1 p.2)
def hasE (L : List En) (g : List Int) : Bool := L.any fun e => decide (e.g = g)
def addOne (f : List Int) (d : Nat) (L : List En) (s : (Int × Int) × List Int) : List En := if hasE L s.2 = true then L else L ++ [⟨s.2, f, s.1, d + 1⟩]
def addAll (f : List Int) (d : Nat) (L : List En) (ss : List ((Int × Int) × List Int)) : List En := ss.foldl (addOne f d) L
def root (x f : List Int) : En := ⟨f, List.replicate x.length 0, (0, 0), 0⟩
def bf (x f : List Int) (c : Bool) : Nat → List En
  | 0 => [root x f]
  | i + 1 => match (bf x f c i)[i]? with
    | some e => addAll e.g e.d (bf x f c i) (succs x c e.g)
    | none => bf x f c i
theorem hasE_iff {L : List En} {g : List Int} : hasE L g = true ↔ ∃ e ∈ L, e.g = g := by simp [hasE]
theorem addOne_pre (f : List Int) (d : Nat) (L : List En) (s : (Int × Int) × List Int) : L <+: addOne f d L s := by
  unfold addOne; split
  · exact List.prefix_refl _
  · exact List.prefix_append _ _
theorem addAll_pre (f : List Int) (d : Nat) : ∀ (ss : List ((Int × Int) × List Int)) (L : List En), L <+: addAll f d L ss
  | [], L => List.prefix_refl _
  | s :: ss, L => (addOne_pre f d L s).trans (addAll_pre f d ss _)
theorem addAll_cons (f : List Int) (d : Nat) (L : List En) (s : (Int × Int) × List Int) (ss : List ((Int × Int) × List Int)) : addAll f d L (s :: ss) = addAll f d (addOne f d L s) ss := rfl
theorem addAll_snoc (f : List Int) (d : Nat) (L : List En) (s : (Int × Int) × List Int) (ss : List ((Int × Int) × List Int)) : addAll f d L (ss ++ [s]) = addOne f d (addAll f d L ss) s := by simp [addAll]
/-- All that a list of entries is said to be. -/
structure Good (x : List Int) (c : Bool) (f0 : List Int) (L : List En) : Prop where
  nodup : (L.map En.g).Nodup
  fill : ∀ e ∈ L, fillB x e.g = true ∧ fillB x e.par = true ∨ e = root x f0
  root : L[0]? = some (root x f0)
  par : ∀ (k : Nat) (e : En), L[k]? = some e → 0 < k → ∃ j e', j < k ∧ L[j]? = some e' ∧ e'.g = e.par ∧ e.d = e'.d + 1 ∧ (e.st, e.g) ∈ succs x c e'.g
theorem succ_mem {x f : List Int} {c : Bool} {s : (Int × Int) × List Int} (h : s ∈ succs x c f) : isR x.length s.1.1 s.1.2 = true ∧ s.2 = stepR x f s.1.1 s.1.2 ∧ s.2 ≠ f ∧ (c = true → s.1.1 ≠ -1 ∧ s.1.2 ≠ -1) := by
  obtain ⟨p, hp, rfl⟩ := List.mem_map.1 h
  have hrow : ∀ a m, p ∈ rowR x f c a m → okR x f c p.1 p.2 = true := by
    intro a m
    induction m with
    | zero => intro h; simp [rowR] at h
    | succ m ih =>
      intro h
      simp only [rowR, List.mem_append] at h
      rcases h with h | h
      · unfold itR at h
        split at h
        · rename_i hk; rw [List.mem_singleton.1 h]; exact hk
        · simp at h
      · exact ih h
  have hall : ∀ k, p ∈ allR x f c k → okR x f c p.1 p.2 = true := by
    intro k
    induction k with
    | zero => intro h; simp [allR] at h
    | succ k ih =>
      intro h
      simp only [allR, List.mem_append] at h
      rcases h with h | h
      · exact hrow _ _ h
      · exact ih h
  have := hall _ hp
  simp only [okR, Bool.and_eq_true, Bool.not_eq_true', decide_eq_false_iff_not] at this
  refine ⟨this.1.2, rfl, fun e => this.2 e.symm, fun hc => ?_⟩
  have h1 := this.1.1
  rw [hc] at h1
  simp at h1
  exact h1
theorem succ_fill {x f : List Int} {c : Bool} {s : (Int × Int) × List Int} (h : s ∈ succs x c f) (hf : fillB x f = true) : fillB x s.2 = true := by
  obtain ⟨h1, h2, _⟩ := succ_mem h
  have := isR_bd h1
  rw [h2]; exact fill_step x f _ _ hf this.2.2 this.1.1 this.2.1.1
theorem Good.gfill {x f0 : List Int} {c : Bool} {L : List En} (G : Good x c f0 L) (h0 : fillB x f0 = true) {e : En} (he : e ∈ L) : fillB x e.g = true := by
  rcases G.fill e he with h | h
  · exact h.1
  · rw [h]; exact h0
theorem good_root (x f : List Int) (c : Bool) : Good x c f [root x f] :=
  ⟨by simp, fun e he => .inr (by simpa using he), rfl, fun k e hk h0 => by
    cases k with
    | zero => omega
    | succ k => simp at hk⟩
theorem Good.one {x f0 : List Int} {c : Bool} {L : List En} (G : Good x c f0 L) (h0 : fillB x f0 = true) {j : Nat} {e' : En} (hj : L[j]? = some e') {s : (Int × Int) × List Int} (hs : s ∈ succs x c e'.g) : Good x c f0 (addOne e'.g e'.d L s) := by
  unfold addOne
  cases hh : hasE L s.2 with
  | true => rw [if_pos rfl]; exact G
  | false =>
    rw [if_neg (by simp)]
    have hjl := (List.getElem?_eq_some_iff.1 hj).1
    have hg' := G.gfill h0 (List.mem_of_getElem? hj)
    refine ⟨?_, fun e he => ?_, ?_, fun k e hk h => ?_⟩
    · rw [List.map_append, List.nodup_append]
      refine ⟨G.nodup, by simp, fun a ha b hb => ?_⟩
      obtain ⟨e, he, rfl⟩ := List.mem_map.1 ha
      simp at hb
      subst hb
      intro e1
      have : hasE L s.2 = true := hasE_iff.2 ⟨e, he, e1⟩
      rw [hh] at this; cases this
    · rcases List.mem_append.1 he with he | he
      · exact G.fill e he
      · rw [List.mem_singleton.1 he]; exact .inl ⟨succ_fill hs hg', hg'⟩
    · rw [List.getElem?_append_left (by omega)]; exact G.root
    · by_cases hkl : k < L.length
      · rw [List.getElem?_append_left hkl] at hk
        obtain ⟨j', e'', h1, h2, h3⟩ := G.par k e hk h
        exact ⟨j', e'', h1, by rw [List.getElem?_append_left (by omega)]; exact h2, h3⟩
      · rw [List.getElem?_append_right (by omega)] at hk
        have hkk : k - L.length = 0 := by
          rcases Nat.eq_zero_or_pos (k - L.length) with h | h
          · exact h
          · rw [List.getElem?_eq_none (by simp; omega)] at hk; cases hk
        rw [hkk] at hk
        simp at hk
        subst hk
        exact ⟨j, e', by omega, by rw [List.getElem?_append_left hjl]; exact hj, rfl, rfl, hs⟩
theorem Good.all {x f0 : List Int} {c : Bool} {e' : En} (h0 : fillB x f0 = true) {j : Nat} : ∀ (ss : List ((Int × Int) × List Int)) {L : List En}, Good x c f0 L → L[j]? = some e' → (∀ s ∈ ss, s ∈ succs x c e'.g) → Good x c f0 (addAll e'.g e'.d L ss)
  | [], L, G, _, _ => G
  | s :: ss, L, G, hj, hs => by
    rw [addAll_cons]
    refine Good.all (j := j) h0 ss (G.one h0 hj (hs s (by simp))) ?_ fun t ht => hs t (List.mem_cons_of_mem _ ht)
    have hp := addOne_pre e'.g e'.d L s
    obtain ⟨t, ht⟩ := hp
    rw [← ht, List.getElem?_append_left (List.getElem?_eq_some_iff.1 hj).1]; exact hj
theorem bf_good {x f0 : List Int} {c : Bool} (h0 : fillB x f0 = true) : ∀ i, Good x c f0 (bf x f0 c i)
  | 0 => good_root x f0 c
  | i + 1 => by
    unfold bf
    split
    · rename_i e he
      exact Good.all h0 _ (bf_good h0 i) he fun s hs => hs
    · exact bf_good h0 i
theorem bf_pre {x f0 : List Int} {c : Bool} (i : Nat) : bf x f0 c i <+: bf x f0 c (i + 1) := by
  show _ <+: (match (bf x f0 c i)[i]? with
    | some e => addAll e.g e.d (bf x f0 c i) (succs x c e.g)
    | none => bf x f0 c i)
  split
  · exact addAll_pre _ _ _ _
  · exact List.prefix_refl _
theorem bf_le {x f0 : List Int} {c : Bool} {i j : Nat} (h : i ≤ j) : bf x f0 c i <+: bf x f0 c j := by
  induction h with
  | refl => exact List.prefix_refl _
  | step _ ih => exact ih.trans (bf_pre _)
theorem bf_get {x f0 : List Int} {c : Bool} {i j k : Nat} {e : En} (h : i ≤ j) (he : (bf x f0 c i)[k]? = some e) : (bf x f0 c j)[k]? = some e := by
  obtain ⟨t, ht⟩ := bf_le (x := x) (f0 := f0) (c := c) h
  rw [← ht, List.getElem?_append_left (List.getElem?_eq_some_iff.1 he).1]; exact he

/-! ### Codes -/
def codeF : List Int → List Int → Nat → Nat
  | _, [], a => a
  | x, v :: f, a => codeF x.tail f (a * (x.headD 0 + 1).toNat + v.toNat)
def code (x f : List Int) : Nat := codeF x f 0
def sizeF (x : List Int) (a : Nat) : Nat := x.foldl (fun a v => a * (v + 1).toNat) a
theorem codeF_lt : ∀ (x f : List Int) (a m : Nat), fillB x f = true → a < m → codeF x f a < sizeF x m
  | [], [], a, m, _, h => h
  | [], _ :: _, a, m, h, _ => by simp [fillB] at h
  | _ :: _, [], a, m, h, _ => by simp [fillB] at h
  | q :: x, v :: f, a, m, h, ham => by
    have hv : 0 ≤ v ∧ v ≤ q ∧ fillB x f = true := by
      simp only [fillB, List.length_cons, List.zip_cons_cons, List.all_cons, Bool.and_eq_true, beq_iff_eq, decide_eq_true_eq] at h ⊢
      exact ⟨h.2.1.1, h.2.1.2, by omega, h.2.2⟩
    show codeF x f (a * (q + 1).toNat + v.toNat) < sizeF x (m * (q + 1).toNat)
    refine codeF_lt x f _ _ hv.2.2 ?_
    have h1 : v.toNat < (q + 1).toNat := by omega
    have h2 : (a + 1) * (q + 1).toNat ≤ m * (q + 1).toNat := Nat.mul_le_mul_right _ ham
    rw [Nat.succ_mul] at h2
    omega
theorem codeF_inj : ∀ (x f g : List Int) (a b : Nat), fillB x f = true → fillB x g = true → codeF x f a = codeF x g b → a = b ∧ f = g
  | [], [], [], a, b, _, _, e => ⟨e, rfl⟩
  | [], _ :: _, _, a, b, h, _, _ => by simp [fillB] at h
  | [], [], _ :: _, a, b, _, h, _ => by simp [fillB] at h
  | _ :: _, [], _, a, b, h, _, _ => by simp [fillB] at h
  | _ :: _, _ :: _, [], a, b, _, h, _ => by simp [fillB] at h
  | q :: x, v :: f, w :: g, a, b, h, h', e => by
    have hv : 0 ≤ v ∧ v ≤ q ∧ fillB x f = true := by
      simp only [fillB, List.length_cons, List.zip_cons_cons, List.all_cons, Bool.and_eq_true, beq_iff_eq, decide_eq_true_eq] at h ⊢
      exact ⟨h.2.1.1, h.2.1.2, by omega, h.2.2⟩
    have hw : 0 ≤ w ∧ w ≤ q ∧ fillB x g = true := by
      simp only [fillB, List.length_cons, List.zip_cons_cons, List.all_cons, Bool.and_eq_true, beq_iff_eq, decide_eq_true_eq] at h' ⊢
      exact ⟨h'.2.1.1, h'.2.1.2, by omega, h'.2.2⟩
    obtain ⟨h1, h2⟩ := codeF_inj x f g _ _ hv.2.2 hw.2.2 e
    have h1 : a * (q + 1).toNat + v.toNat = b * (q + 1).toNat + w.toNat := h1
    have l1 : v.toNat < (q + 1).toNat := by omega
    have l2 : w.toNat < (q + 1).toNat := by omega
    have hm : v.toNat = w.toNat := by
      have := congrArg (· % (q + 1).toNat) h1
      simp only [Nat.mul_add_mod_self_right, Nat.mod_eq_of_lt l1, Nat.mod_eq_of_lt l2] at this
      exact this
    have ha : a = b := by
      have h3 : a * (q + 1).toNat = b * (q + 1).toNat := by omega
      exact Nat.eq_of_mul_eq_mul_right (by omega) h3
    refine ⟨ha, ?_⟩
    rw [h2, show v = w from by omega]
theorem sizeF_le : ∀ (x : List Int) (a k : Nat), (∀ i ∈ x, 1 ≤ i ∧ i ≤ 12) → x.length ≤ k → sizeF x a ≤ a * 13 ^ k
  | [], a, k, _, _ => by
    show a ≤ a * 13 ^ k
    exact Nat.le_mul_of_pos_right a (Nat.pow_pos (by decide))
  | q :: x, a, k, h, hl => by
    obtain ⟨k, rfl⟩ : ∃ j, k = j + 1 := ⟨k - 1, by simp at hl; omega⟩
    have := sizeF_le x (a * (q + 1).toNat) k (fun i hi => h i (List.mem_cons_of_mem _ hi)) (by simpa using hl)
    have hq := h q (by simp)
    refine Nat.le_trans this ?_
    rw [Nat.pow_succ, Nat.mul_comm (13 ^ k) 13, ← Nat.mul_assoc]
    exact Nat.mul_le_mul_right _ (Nat.mul_le_mul_left _ (by omega))
theorem pigeon : ∀ (m : Nat) (l : List Nat), l.Nodup → (∀ a ∈ l, a < m) → l.length ≤ m
  | 0, [], _, _ => Nat.le_refl _
  | 0, a :: l, _, h => absurd (h a (by simp)) (Nat.not_lt_zero a)
  | m + 1, l, hn, h => by
    have h1 := pigeon m (l.filter (fun a => decide (a ≠ m))) (hn.filter _) (fun a ha => by
      have := List.mem_filter.1 ha
      have h2 := h a this.1
      have h3 : a ≠ m := by simpa using this.2
      omega)
    have h2 : l.length ≤ (l.filter (fun a => decide (a ≠ m))).length + 1 := by
      clear h1 h
      induction l with
      | nil => simp
      | cons a l ih =>
        have hn' := List.nodup_cons.1 hn
        rw [List.filter_cons]
        by_cases ha : a = m
        · subst ha
          have : l.filter (fun b => decide (b ≠ a)) = l := List.filter_eq_self.2 fun b hb => by
            have : b ≠ a := fun e => hn'.1 (by rw [← e]; exact hb)
            simp [this]
          simp only [ne_eq, not_true_eq_false, decide_false, Bool.false_eq_true, if_false, List.length_cons]
          rw [show (l.filter fun b => decide ¬b = a) = l from this]; exact Nat.le_refl _
        · simp only [ha, ne_eq, not_false_eq_true, decide_true, if_true, List.length_cons]
          have := ih hn'.2
          simp only [ne_eq] at this
          omega
    omega
theorem good_len {x f0 : List Int} {c : Bool} {L : List En} (G : Good x c f0 L) (h0 : fillB x f0 = true) : L.length ≤ sizeF x 1 := by
  have h1 := pigeon (sizeF x 1) (L.map fun e => code x e.g) ?_ ?_
  · simpa using h1
  · have hn := G.nodup
    have hf : ∀ e ∈ L, fillB x e.g = true := fun e he => G.gfill h0 he
    clear G
    induction L with
    | nil => simp
    | cons e L ih =>
      simp only [List.map_cons, List.nodup_cons] at hn ⊢
      refine ⟨fun hm => ?_, ih hn.2 fun e he => hf e (List.mem_cons_of_mem _ he)⟩
      obtain ⟨e', he', hc⟩ := List.mem_map.1 hm
      have := (codeF_inj x e'.g e.g 0 0 (hf e' (List.mem_cons_of_mem _ he')) (hf e (by simp)) hc).2
      exact hn.1 (List.mem_map.2 ⟨e', he', this⟩)
  · intro a ha
    obtain ⟨e, he, rfl⟩ := List.mem_map.1 ha
    exact codeF_lt x e.g 0 1 (G.gfill h0 he) (by decide)
theorem bf_len {x f0 : List Int} {c : Bool} (hx : okJ x) (h0 : fillB x f0 = true) (i : Nat) : (bf x f0 c i).length ≤ 28561 := by
  have h1 := good_len (bf_good (c := c) h0 i) h0
  have h2 := sizeF_le x 1 4 (okJ_mem hx) hx.2.1
  omega
/-- The search ends. -/
theorem bf_end {x f0 : List Int} {c : Bool} (hx : okJ x) (h0 : fillB x f0 = true) : ∃ N, N = (bf x f0 c N).length ∧ ∀ j, j < N → j < (bf x f0 c j).length := by
  have : ∀ n, (∃ N, N ≤ n ∧ N = (bf x f0 c N).length ∧ ∀ j, j < N → j < (bf x f0 c j).length) ∨ ∀ j, j ≤ n → j < (bf x f0 c j).length := by
    intro n
    induction n with
    | zero => exact .inr fun j hj => by have : j = 0 := by omega
                                        subst this; simp [bf]
    | succ n ih =>
      rcases ih with ⟨N, h1, h2⟩ | h
      · exact .inl ⟨N, by omega, h2⟩
      · by_cases hn : n + 1 < (bf x f0 c (n + 1)).length
        · exact .inr fun j hj => by
            rcases Nat.lt_or_ge j (n + 1) with h1 | h1
            · exact h j (by omega)
            · have : j = n + 1 := by omega
              subst this; exact hn
        · have h2 := h n (Nat.le_refl _)
          have h3 := (bf_pre (x := x) (f0 := f0) (c := c) n).length_le
          exact .inl ⟨n + 1, Nat.le_refl _, by omega, fun j hj => h j (by omega)⟩
  rcases this 28561 with ⟨N, _, h⟩ | h
  · exact ⟨N, h⟩
  · have h1 := h 28561 (Nat.le_refl _)
    have h2 := bf_len (c := c) hx h0 28561
    omega
end Go.Ab.Jug

namespace Go.Ab.Jug
open Go.Ab.V
set_option maxRecDepth 100000
theorem good_d {x f0 : List Int} {c : Bool} {L : List En} (G : Good x c f0 L) : ∀ (k : Nat) (e : En), L[k]? = some e → e.d ≤ k := by
  intro k
  induction k using Nat.strongRecOn with
  | _ k ih =>
    intro e he
    rcases Nat.eq_zero_or_pos k with h | h
    · subst h
      rw [G.root] at he; cases he
      exact Nat.le_refl _
    · obtain ⟨j, e', h1, h2, _, h3, _⟩ := G.par k e he h
      have := ih j h1 e' h2
      omega
end Go.Ab.Jug

namespace Go.Ab.Jug
open Go.Ab.V
set_option maxRecDepth 100000
@[reducible] def kV (g : List Int) : Value := .agg ((pad4 g).map (Value.int .i64)).toArray
def entP (e : En) : List PV := (pad4 e.par).map pi ++ [pi e.st.1, pi e.st.2, pi e.d]
def esP (L : List En) : List (Value × List PV) := L.map fun e => (kV e.g, entP e)
def k4 : List CK := [.int, .int, .int, .int]
theorem keyK {g h : List Int} (hg : g.length ≤ 4) (hh : h.length ≤ 4) : keyEq k4 (kV g) (kV h) = some (decide (pad4 g = pad4 h)) := by
  obtain ⟨a0, a1, a2, a3, hA⟩ := four (pad4_len g hg)
  obtain ⟨b0, b1, b2, b3, hB⟩ := four (pad4_len h hh)
  simp only [kV]
  rw [hA, hB]
  show some ((a0 == b0) && ((a1 == b1) && ((a2 == b2) && ((a3 == b3) && true)))) = _
  congr 1
  rw [Bool.eq_iff_iff]
  simp
theorem findV_es {x : List Int} (hx : x.length ≤ 4) {g : List Int} (hg : fillB x g = true) : ∀ {L : List En}, (∀ e ∈ L, fillB x e.g = true) → findV k4 (kV g) (ofAg (esP L)) = some ((L.find? fun e => decide (e.g = g)).map fun e => .agg ((entP e).map .p))
  | [], _ => rfl
  | e :: L, h => by
    have lg := ((fillB_iff x g).1 hg).1
    have le := ((fillB_iff x e.g).1 (h e (by simp))).1
    have hk := keyK (g := g) (h := e.g) (by omega) (by omega)
    have ih := findV_es hx hg (L := L) fun e he => h e (List.mem_cons_of_mem _ he)
    show (match keyEq k4 (kV g) (kV e.g) with
      | some true => some (some (VV.agg ((entP e).map .p)))
      | some false => findV k4 (kV g) (ofAg (esP L))
      | none => none) = _
    rw [hk]
    by_cases he : e.g = g
    · rw [decide_eq_true (by rw [he]), List.find?_cons_of_pos (by simpa using he)]; rfl
    · rw [decide_eq_false (fun e1 => he (pad4_inj (by omega) e1).symm), List.find?_cons_of_neg (by simpa using he)]; exact ih
theorem setE_es {x : List Int} (hx : x.length ≤ 4) {g : List Int} (hg : fillB x g = true) (v : VV) : ∀ {L : List En}, (∀ e ∈ L, fillB x e.g = true) → hasE L g = false → setE2 k4 (kV g) v (ofAg (esP L)) = ofAg (esP L) ++ [(kV g, v)]
  | [], _, _ => rfl
  | e :: L, h, hn => by
    have lg := ((fillB_iff x g).1 hg).1
    have le := ((fillB_iff x e.g).1 (h e (by simp))).1
    have hk := keyK (g := g) (h := e.g) (by omega) (by omega)
    have hne : e.g ≠ g := fun e1 => by
      have : hasE (e :: L) g = true := hasE_iff.2 ⟨e, by simp, e1⟩
      rw [hn] at this; cases this
    have hnL : hasE L g = false := by
      cases hb : hasE L g with
      | false => rfl
      | true =>
        obtain ⟨e', h1, h2⟩ := hasE_iff.1 hb
        have : hasE (e :: L) g = true := hasE_iff.2 ⟨e', List.mem_cons_of_mem _ h1, h2⟩
        rw [hn] at this; cases this
    have ih := setE_es hx hg v (L := L) (fun e he => h e (List.mem_cons_of_mem _ he)) hnL
    show (match keyEq k4 (kV g) (kV e.g) with
      | some true => (kV g, v) :: ofAg (esP L)
      | _ => (kV e.g, VV.agg ((entP e).map .p)) :: setE2 k4 (kV g) v (ofAg (esP L))) = _
    rw [hk, decide_eq_false (fun e1 => hne (pad4_inj (by omega) e1).symm), ih]; rfl
theorem find_none {L : List En} {g : List Int} (h : hasE L g = false) : (L.find? fun e => decide (e.g = g)) = none := by
  rw [List.find?_eq_none]
  intro e he hk
  have : hasE L g = true := hasE_iff.2 ⟨e, he, by simpa using hk⟩
  rw [h] at this; cases this
theorem find_some {L : List En} (hn : (L.map En.g).Nodup) {k : Nat} {e : En} (he : L[k]? = some e) : (L.find? fun e' => decide (e'.g = e.g)) = some e := by
  cases h : L.find? fun e' => decide (e'.g = e.g) with
  | none =>
    rw [List.find?_eq_none] at h
    exact absurd (by simp) (h e (List.mem_of_getElem? he))
  | some e' =>
    have h1 := List.find?_some h
    have h2 := List.mem_of_find?_eq_some h
    obtain ⟨j, hj, hje⟩ := List.mem_iff_getElem.1 h2
    obtain ⟨hk, hke⟩ := List.getElem?_eq_some_iff.1 he
    have : j = k := (List.getElem_inj (h₀ := by simpa using hj) (h₁ := by simpa using hk) hn).1 (by simp [hje, hke]; simpa using h1)
    subst this
    rw [← hje, ← hke]
/-- The fillings that wait, in a row. -/
def qP (L : List En) : List PV := L.flatMap fun e => (pad4 e.g).map pi
theorem qP_cons (e : En) (L : List En) : qP (e :: L) = (pad4 e.g).map pi ++ qP L := rfl
theorem qP_append (L M : List En) : qP (L ++ M) = qP L ++ qP M := by simp [qP]
theorem qP_len : ∀ {L : List En}, (∀ e ∈ L, e.g.length ≤ 4) → (qP L).length = L.length * 4
  | [], _ => rfl
  | e :: L, h => by
    rw [qP_cons, List.length_append, List.length_map, pad4_len _ (h e (by simp)), qP_len fun e he => h e (List.mem_cons_of_mem _ he), List.length_cons]; omega
theorem pad4_zero (n : Nat) (h : n ≤ 4) : pad4 (List.replicate n 0) = [0, 0, 0, 0] := by
  have : n = 0 ∨ n = 1 ∨ n = 2 ∨ n = 3 ∨ n = 4 := by omega
  rcases this with rfl | rfl | rfl | rfl | rfl <;> rfl
theorem Good.par_len {x f0 : List Int} {c : Bool} {L : List En} (G : Good x c f0 L) {e : En} (he : e ∈ L) : e.par.length = x.length := by
  rcases G.fill e he with h | h
  · exact ((fillB_iff x _).1 h.2).1
  · rw [h]; simp [Go.Ab.Jug.root]
theorem entP_len {e : En} (h : e.par.length ≤ 4) : (entP e).length = 7 := by simp [entP, pad4_len _ h]
set_option maxHeartbeats 8000000 in
theorem reached_ok (x f : List Int) (c : Bool) (hx : okJ x) (hf : fillB x f = true) (k : Nat) (hk : k ≠ 20) (pc : List PV) (P : List Int → Bool) (hP : ∀ g, fillB x g = true → VCall cfg k (.agg ((pad4 g).map vi) :: pc.map .p) [] [] (vb (P g)) [])
    (M : Nat) (fb : Bool) (out : List Int) (hM : ∀ j, j < M → ∃ e, (bf x f c j)[j]? = some e ∧ P e.g = false) (h1 : fb = true → ∃ e, (bf x f c M)[M]? = some e ∧ P e.g = true ∧ out = e.g) (h0 : fb = false → M = (bf x f c M).length ∧ out = List.replicate x.length 0) :
    VCall cfg 66 [jugP x c, .agg ((pad4 f).map vi), .clos k [] (pc.map .p)] [] [p18] (.tup [.om p18, .agg ((pad4 out).map vi), vb fb]) [(p18, .map (ofAg (esP (bf x f c M))))] := by
  have hx4 : x.length ≤ 4 := hx.2.1
  have hlf : f.length = x.length := ((fillB_iff x f).1 hf).1
  obtain ⟨f0, f1, f2, f3, hF⟩ := four (pad4_len f (by omega))
  have hk4 : [CK.int, .int, .int, .int] = k4 := rfl
  have hroot : ofAg (esP [root x f]) = [(.agg [Value.int .i64 f0, .int .i64 f1, .int .i64 f2, .int .i64 f3].toArray, .agg [vi 0, vi 0, vi 0, vi 0, vi 0, vi 0, vi 0])] := by
    simp only [esP, root, List.map_cons, List.map_nil, kV, entP, hF, pad4_zero _ hx4]; rfl
  have hq0 : qP [root x f] = [pi f0, pi f1, pi f2, pi f3] := by simp only [qP, root, List.flatMap_cons, List.flatMap_nil, hF]; rfl
  have hself := keyK (g := f) (h := f) (by omega) (by omega)
  rw [decide_eq_true rfl] at hself
  simp only [kV, hF, List.map_cons, List.map_nil] at hself
  unfold jugP
  (refine VCall.mk (fn := a66) rfl rfl rfl ?_; simp only [a66, inV, mkB, nmsL, PT.set])
  (repeat (first | refine VC.seq ?_ | refine VC.block ?_ | refine VC.kill ?_ | refine VC.skip ?_ | refine VC.exit ?_ | refine VC.regA ?_ | refine VC.condT ?_ | refine VC.condF ?_))
  ((try (apply VC.regU; · ((simp (config := {decide := false, maxSteps := 1000000}) (disch := omega) only [vev_call, putC_c0, putC_n0, putC_cs, ble0, List.getElem?_cons_zero, List.getElem?_cons_succ, runU, isCall, wantV, vev, evV, ofVal, ofAtom, atomB, cond_true, cond_false, PT.get, PT.set, PT.filt, PT.map, Option.getD_some, Option.getD_none, ret1V, ret1X, v_ld, v_ias, v_iad, v_fad, v_slsl, v_slarr, v_st, v_app, v_cpy, v_len, v_look, v_mset, elsV, partV, newV, free, atV, atI, atL, toVal, cellsV, okV, VSt.put, VSt.kill, VSt.alloc, VSt.frz, VSt.adopt, noref, norefB, deadB, deadV, nos, nm, nmL, nmB, nmE, Pa.eqb, Bool.not_false, Bool.not_true, Bool.and_true, Bool.true_and, Bool.false_and, Bool.and_false, bin, intOps, intBin, cvt, un, goInt, bndsV, bndV, Option.map_some, Option.map_none, List.map_cons, List.map_nil, Int.toNat_natCast, Nat.mul_one, Nat.zero_add, beq_true, beq_false, beq_self_eq_true, List.length_map, List.length_cons, List.length_nil, List.length_append, fillV, pEvV, repsV, List.append_nil, List.nil_append, if_pos, if_neg, reduceIte, List.getElem?_map, List.getElem?_drop, Nat.add_zero, List.getElem?_eq_getElem, Go.IntWalk.i64_in, wrap_u64, tmod_pos, eq_self, true_and, and_true, and_self, List.all_cons, List.all_nil, nmL_vi, flV_len, flP_len, flV_nm, flV_ok, flV_pv, flP_map, drop_flP, drop_flV, putC_flV, eqV2, eqV3, bneT, bneF, decide_true, decide_false, frzL_vi, frzL_flV, nmE_ag, nmE_at, frzE_ag, frzE_at, ofAg_len, ofAt_len, atL_vi, nmL_map_p, frzL_map_p, okL_p, toPVs_p, repsZ, nmL_reps, putC_vi, get_flV0, get_flV1, Int.toNat_zero, Int.toNat_one, Int.reduceToNat, eqV_slice, eqV_ptr, eqV_func, nilS, nilP, nilF, nmL_append, okL_vi, toPVs_vi, toPVs, toPV, frzV, frzL, frzB, resVV, vi, vb, nilV, sl1, bl1, pi, foldV, max2, min2, max_eq, min_eq, Int.tdiv_eq_ediv_of_nonneg, Int.cast_ofNat_Int, Option.isSome_none, Option.isSome_some, Option.isNone_none, Option.isNone_some, and_false, false_and, sl2, sl1P, slP, min_cast, take_map_pi, map_pi, Nat.sub_zero, Nat.zero_mul, List.length_take, decide_eq_true, decide_eq_false, Bool.true_eq_false, Bool.false_eq_true, beqT, beqF, ibeq, ibne, List.take_zero, List.take_succ_cons, List.drop_zero, List.drop_succ_cons, List.drop_nil, List.take_nil, List.cons_append, Bool.not_true, Bool.not_false, hF, hk4, hself, findV, setE2]); rfl))); (repeat (first | refine VC.seq ?_ | refine VC.block ?_ | refine VC.kill ?_ | refine VC.skip ?_ | refine VC.exit ?_ | refine VC.regA ?_ | refine VC.condT ?_ | refine VC.condF ?_)))
  refine VC.ghost (G.osobA (p := p10) (n := 1) 0 G.refl (by decide)) ?_
  (simp only [VSt.kill, VSt.osob, VSt.adoptB, VSt.adopt, VSt.alloc, PT.filt, norefB, deadB, deadV, PT.map, Option.map_some, Option.map_none, List.map_cons, List.map_nil, noref, nos, nm, nmL, nmB, nmE, Pa.eqb, PT.set, mkB, inV, cond_true, cond_false, Bool.and_true, Bool.not_false, Bool.not_true, List.set_cons_zero, List.set_cons_succ])
  refine VC.loopG (fun (q : Nat × Nat × List PV) => ⟨inV [p0, p2, p7, p9, p10, p11, p12] [.p (.fp 0 (jugC x c)), .clos k [] (pc.map .p), .op 0 p7 0, .op 0 p9 0, .op 0 p10 0, .op 0 p11 0, vb false] .lf,
    mkB [(p7, .cells [vi 0, vi 0, vi 0, vi 0]), (p9, .cells [.om p18]), (p18, .map (ofAg (esP (bf x f c q.1)))), (p10, .cells [.ob 4 p23 q.2.1 ((bf x f c q.1).length - q.1) ((bf x f c q.1).length - q.1)]), (p23, .cells (q.2.2.map .p)), (p11, .cells [vi 0, vi 0, vi 0, vi 0])] .lf, [], none⟩)
    (fun n q => n = M - q.1 ∧ q.1 ≤ M ∧ q.2.2.drop q.2.1 = qP ((bf x f c q.1).drop q.1) ∧ q.2.1 ≤ q.2.2.length) (x := (0, 0, qP [root x f])) ?_ ⟨rfl, Nat.zero_le _, rfl, Nat.zero_le _⟩ ?_
  · have e1 : bf x f c 0 = [root x f] := rfl
    have e2 : ([root x f] : List En).length - 0 = 1 := rfl
    (apply Go.Ab.V.G.weak; constructor <;> simp (config := {decide := true}) only [PT.Le, inV, mkB, PT.set, VSt.kill, VSt.adopt, VSt.alloc, PT.filt, PT.map, List.map_cons, List.map_nil, noref, norefB, deadB, deadV, nos, nm, nmL, nmB, nmE, Pa.eqb, cond_true, cond_false, Bool.not_true, Bool.not_false, Bool.and_true, Bool.true_and, nmL_vi, flV_len, flP_len, flV_nm, flV_ok, flV_pv, flP_map, drop_flP, drop_flV, putC_flV, eqV2, eqV3, bneT, bneF, decide_true, decide_false, frzL_vi, frzL_flV, nmE_ag, nmE_at, frzE_ag, frzE_at, ofAg_len, ofAt_len, atL_vi, nmL_map_p, frzL_map_p, okL_p, toPVs_p, repsZ, nmL_reps, putC_vi, get_flV0, get_flV1, Int.toNat_zero, Int.toNat_one, Int.reduceToNat, eqV_slice, eqV_ptr, eqV_func, nilS, nilP, nilF, nmL_append, true_or, or_true, and_self, true_and, and_true, Option.some.injEq, reduceCtorEq, false_or, or_false, VV.p.injEq, PV.at.injEq, Value.int.injEq, sl1, vi, bl1, vb, nilV, e1, e2, hroot, hq0, pi, List.map_cons, List.map_nil])
  rintro n ⟨i, off, C⟩ ⟨hn, hi, hC, hoff⟩
  simp only at hn hi hC hoff
  have hG := bf_good (x := x) (f0 := f) (c := c) hf i
  have hbl := bf_len (c := c) hx hf i
  generalize hL : bf x f c i = L at *
  simp only [inV, PT.set, mkB]
  cases hLi : L[i]? with
  | none =>
    have hlen : L.length ≤ i := List.getElem?_eq_none_iff.1 hLi
    have hiM : i = M := by
      rcases Nat.lt_or_ge i M with h | h
      · obtain ⟨e, he, _⟩ := hM i h
        rw [hL, hLi] at he; cases he
      · omega
    subst hiM
    cases hfb : fb with
    | true =>
      obtain ⟨e, he, _⟩ := h1 hfb
      rw [hL, hLi] at he; cases he
    | false =>
      obtain ⟨_, rfl⟩ := h0 hfb
      have hn0 : L.length - i = 0 := by omega
      rw [hn0, pad4_zero _ hx4]
      (repeat (first | refine VC.seq ?_ | refine VC.block ?_ | refine VC.kill ?_ | refine VC.skip ?_ | refine VC.exit ?_ | refine VC.regA ?_ | refine VC.condT ?_ | refine VC.condF ?_))
      rw [hL]
      refine VC.ret (Fin.of rfl rfl ?_ rfl rfl ?_)
      · simp [mkB, PT.set, PT.Le, p18]
      · simp [subs, nm, nmL, nmsB, nmB, nmE_ag, nos, Pa.eqb, vi, vb]
  | some e =>
    have hil := (List.getElem?_eq_some_iff.1 hLi).1
    have hfe := hG.gfill hf (List.mem_of_getElem? hLi)
    have hle : e.g.length = x.length := ((fillB_iff x _).1 hfe).1
    obtain ⟨a0, a1, a2, a3, hA⟩ := four (pad4_len e.g (by omega))
    have hdr : L.drop i = e :: L.drop (i + 1) := by rw [List.drop_eq_getElem_cons hil, (List.getElem?_eq_some_iff.1 hLi).2]
    have hn1 : L.length - i = (L.drop (i + 1)).length + 1 := by simp; omega
    have hC2 : C.drop off = [pi a0, pi a1, pi a2, pi a3] ++ qP (L.drop (i + 1)) := by rw [hC, hdr, qP_cons, hA]; rfl
    have hqr : (qP (L.drop (i + 1))).length = (L.drop (i + 1)).length * 4 := qP_len fun e' he' => by
      have := ((fillB_iff x _).1 (hG.gfill hf (List.mem_of_mem_drop he'))).1
      omega
    have hCl : C.length = off + 4 + (L.drop (i + 1)).length * 4 := by
      have := congrArg List.length hC2
      rw [List.length_drop, List.length_append, hqr] at this
      simp at this; omega
    have hCm : List.drop off (C.map VV.p) = .p (pi a0) :: .p (pi a1) :: .p (pi a2) :: .p (pi a3) :: (qP (L.drop (i + 1))).map .p := by rw [← List.map_drop, hC2]; rfl
    have hPe := hP e.g hfe
    rw [hA] at hPe
    simp only [List.map_cons, List.map_nil] at hPe
    rw [hn1]
    generalize hR : (L.drop (i + 1)).length = r at *
    (repeat (first | refine VC.seq ?_ | refine VC.block ?_ | refine VC.kill ?_ | refine VC.skip ?_ | refine VC.exit ?_ | refine VC.regA ?_ | refine VC.condT ?_ | refine VC.condF ?_))
    ((try (apply VC.regU; · ((simp (config := {decide := false, maxSteps := 1000000}) (disch := omega) only [vev_call, putC_c0, putC_n0, putC_cs, ble0, List.getElem?_cons_zero, List.getElem?_cons_succ, runU, isCall, wantV, vev, evV, ofVal, ofAtom, atomB, cond_true, cond_false, PT.get, PT.set, PT.filt, PT.map, Option.getD_some, Option.getD_none, ret1V, ret1X, v_ld, v_ias, v_iad, v_fad, v_slsl, v_slarr, v_st, v_app, v_cpy, v_len, v_look, v_mset, elsV, partV, newV, free, atV, atI, atL, toVal, cellsV, okV, VSt.put, VSt.kill, VSt.alloc, VSt.frz, VSt.adopt, noref, norefB, deadB, deadV, nos, nm, nmL, nmB, nmE, Pa.eqb, Bool.not_false, Bool.not_true, Bool.and_true, Bool.true_and, Bool.false_and, Bool.and_false, bin, intOps, intBin, cvt, un, goInt, bndsV, bndV, Option.map_some, Option.map_none, List.map_cons, List.map_nil, Int.toNat_natCast, Nat.mul_one, Nat.zero_add, beq_true, beq_false, beq_self_eq_true, List.length_map, List.length_cons, List.length_nil, List.length_append, fillV, pEvV, repsV, List.append_nil, List.nil_append, if_pos, if_neg, reduceIte, List.getElem?_map, List.getElem?_drop, Nat.add_zero, List.getElem?_eq_getElem, Go.IntWalk.i64_in, wrap_u64, tmod_pos, eq_self, true_and, and_true, and_self, List.all_cons, List.all_nil, nmL_vi, flV_len, flP_len, flV_nm, flV_ok, flV_pv, flP_map, drop_flP, drop_flV, putC_flV, eqV2, eqV3, bneT, bneF, decide_true, decide_false, frzL_vi, frzL_flV, nmE_ag, nmE_at, frzE_ag, frzE_at, ofAg_len, ofAt_len, atL_vi, nmL_map_p, frzL_map_p, okL_p, toPVs_p, repsZ, nmL_reps, putC_vi, get_flV0, get_flV1, Int.toNat_zero, Int.toNat_one, Int.reduceToNat, eqV_slice, eqV_ptr, eqV_func, nilS, nilP, nilF, nmL_append, okL_vi, toPVs_vi, toPVs, toPV, frzV, frzL, frzB, resVV, vi, vb, nilV, sl1, bl1, pi, foldV, max2, min2, max_eq, min_eq, Int.tdiv_eq_ediv_of_nonneg, Int.cast_ofNat_Int, Option.isSome_none, Option.isSome_some, Option.isNone_none, Option.isNone_some, and_false, false_and, sl2, sl1P, slP, min_cast, take_map_pi, map_pi, Nat.sub_zero, Nat.zero_mul, List.length_take, decide_eq_true, decide_eq_false, Bool.true_eq_false, Bool.false_eq_true, beqT, beqF, ibeq, ibne, List.take_zero, List.take_succ_cons, List.drop_zero, List.drop_succ_cons, List.drop_nil, List.take_nil, List.cons_append, Bool.not_true, Bool.not_false, hCm, hCl]); rfl))); (repeat (first | refine VC.seq ?_ | refine VC.block ?_ | refine VC.kill ?_ | refine VC.skip ?_ | refine VC.exit ?_ | refine VC.regA ?_ | refine VC.condT ?_ | refine VC.condF ?_)))
    simp only [Nat.one_mul, Nat.add_sub_cancel]
    refine VC.regCA ?_
    refine VO.moreA ?_
    refine VO.call0A (no_orc k hk) hPe ?_
    refine VO.endA ?_
    rcases Nat.lt_or_ge i M with hiM | hiM
    · have hPf : P e.g = false := by
        obtain ⟨e', he', hp⟩ := hM i hiM
        rw [hL, hLi] at he'; cases he'; exact hp
      rw [hPf]
      (repeat (first | refine VC.seq ?_ | refine VC.block ?_ | refine VC.kill ?_ | refine VC.skip ?_ | refine VC.exit ?_ | refine VC.regA ?_ | refine VC.condT ?_ | refine VC.condF ?_))
      have kst := stepsJ_ok x e.g c hx4 hle
      have hit := stepsIt x e.g c hx4 (okJ_mem hx) hfe
      unfold jugP at kst
      rw [hA] at kst hit
      simp only [List.map_cons, List.map_nil] at kst hit
      refine VC.regCA ?_
      refine VO.moreA ?_
      refine VO.call0A (no_orc 47 (by decide)) kst ?_
      refine VO.endA ?_
      (repeat (first | refine VC.seq ?_ | refine VC.block ?_ | refine VC.kill ?_ | refine VC.skip ?_ | refine VC.exit ?_ | refine VC.regA ?_ | refine VC.condT ?_ | refine VC.condF ?_))
      (simp only [VSt.kill, VSt.osob, VSt.adoptB, VSt.adopt, VSt.alloc, PT.filt, norefB, deadB, deadV, PT.map, Option.map_some, Option.map_none, List.map_cons, List.map_nil, noref, nos, nm, nmL, nmB, nmE, Pa.eqb, PT.set, mkB, inV, cond_true, cond_false, Bool.and_true, Bool.not_false, Bool.not_true, List.set_cons_zero, List.set_cons_succ])
      have hjt : itemsJ x e.g c = (succs x c e.g).map fun s => encI (s.1, pad4 s.2) := by simp only [itemsJ, succs, List.map_map]; rfl
      rw [hjt] at hit
      refine VC.rangeFA (fun (q : List En × Nat × List PV) => mkB [(p7, .cells [vi 0, vi 0, vi 0, vi 0]), (p9, .cells [.om p18]), (p18, .map (ofAg (esP q.1))), (p10, .cells [.ob 4 p23 q.2.1 (q.1.length - (i + 1)) (q.1.length - (i + 1))]), (p23, .cells (q.2.2.map .p)), (p11, .cells [vi 0, vi 0, vi 0, vi 0]), (p13, .cells [vi a0, vi a1, vi a2, vi a3])] .lf)
        (fun j q => q.1 = addAll e.g e.d L ((succs x c e.g).take j) ∧ q.2.2.drop q.2.1 = qP (q.1.drop (i + 1)) ∧ q.2.1 ≤ q.2.2.length) (x0 := (L, off + 4, C)) [p7, p9, p10, p11, p13] (no_orc 65 (by decide)) hit ?_ ?_ ?_ ?_ ?_ ?_
      · simp [NmOk, nm, nmL, nmL_map_p, VSt.kill, PT.set]
      · have hlr : L.length - (i + 1) = r := by rw [← hR, List.length_drop]
        simp [mkB, PT.set, PT.Le, VSt.kill, hlr, vi, p7, p9, p10, p11, p13, p18, p23]
      · refine ⟨rfl, ?_, by simp only; omega⟩
        simp only
        rw [← List.drop_drop, hC2, List.drop_append_of_le_length (by simp)]
        simp
      · intro y hy
        obtain ⟨s, _, rfl⟩ := List.mem_map.1 hy
        rfl
      · rintro j ⟨L', off', C'⟩ hlt ⟨hL', hC', hoff'⟩
        simp only at hL' hC' hoff'
        have hj : j < (succs x c e.g).length := by simpa using hlt
        rw [List.getElem_map]
        generalize hs : (succs x c e.g)[j] = s
        have hsm : s ∈ succs x c e.g := by rw [← hs]; exact List.getElem_mem hj
        have hfg := succ_fill hsm hfe
        have hlg : s.2.length = x.length := ((fillB_iff x _).1 hfg).1
        have hG' : Good x c f L' := by rw [hL']; exact Good.all hf _ hG hLi fun s hs => List.mem_of_mem_take hs
        have hlL' : L'.length ≤ 28561 := by have := good_len hG' hf; have := sizeF_le x 1 4 (okJ_mem hx) hx4; omega
        have hpre : L <+: L' := by rw [hL']; exact addAll_pre _ _ _ _
        have he' : L'[i]? = some e := by
          obtain ⟨t, ht⟩ := hpre
          rw [← ht, List.getElem?_append_left hil]; exact hLi
        have hil' := (List.getElem?_eq_some_iff.1 he').1
        have hf' : ∀ e ∈ L', fillB x e.g = true := fun e he => hG'.gfill hf he
        have hqr' : (qP (L'.drop (i + 1))).length = (L'.drop (i + 1)).length * 4 := qP_len fun e' he' => by
          have := ((fillB_iff x _).1 (hf' _ (List.mem_of_mem_drop he'))).1
          omega
        have hnx : addAll e.g e.d L ((succs x c e.g).take (j + 1)) = addOne e.g e.d L' s := by
          rw [List.take_add_one, List.getElem?_eq_getElem hj, hs]
          show addAll e.g e.d L ((succs x c e.g).take j ++ [s]) = _
          rw [addAll_snoc, ← hL']
        have hfs := findV_es hx4 hfg hf'
        have hfe2 := findV_es hx4 hfe hf'
        rw [find_some hG'.nodup he'] at hfe2
        have hks := keyK (g := s.2) (h := s.2) (by omega) (by omega)
        have hke := keyK (g := e.g) (h := e.g) (by omega) (by omega)
        rw [decide_eq_true rfl] at hks hke
        have hse := fun v => setE_es hx4 hfg v hf'
        have hed := good_d hG' i e he'
        obtain ⟨b0, b1, b2, b3, hB⟩ := four (pad4_len s.2 (by omega))
        simp only [kV, hA, hB, List.map_cons, List.map_nil] at hfs hfe2 hks hke hse
        obtain ⟨⟨s1, s2⟩, g⟩ := s
        simp only at hfg hlg hnx hfs hks hse hB
        rw [hB]
        simp only [encI, ag2, List.map_cons, List.map_nil]
        have hn' : L'.length - (i + 1) = (L'.drop (i + 1)).length := by rw [List.length_drop]
        have hCl' : C'.length = off' + (L'.drop (i + 1)).length * 4 := by
          have := congrArg List.length hC'
          rw [List.length_drop, hqr'] at this; omega
        have hrl : (L'.drop (i + 1)).length ≤ 28561 := by rw [List.length_drop]; omega
        (simp only [VSt.kill, VSt.osob, VSt.adoptB, VSt.adopt, VSt.alloc, PT.filt, norefB, deadB, deadV, PT.map, Option.map_some, Option.map_none, List.map_cons, List.map_nil, noref, nos, nm, nmL, nmB, nmE, Pa.eqb, PT.set, mkB, inV, cond_true, cond_false, Bool.and_true, Bool.not_false, Bool.not_true, List.set_cons_zero, List.set_cons_succ])
        rw [hn']
        generalize hR' : (L'.drop (i + 1)).length = r' at *
        cases hh : hasE L' g with
        | true =>
          have hLs : addOne e.g e.d L' ((s1, s2), g) = L' := by unfold addOne; rw [if_pos hh]
          obtain ⟨e2, he2⟩ : ∃ e2, (L'.find? fun e => decide (e.g = g)) = some e2 := by
            cases hq : L'.find? fun e => decide (e.g = g) with
            | some e2 => exact ⟨e2, rfl⟩
            | none =>
              rw [List.find?_eq_none] at hq
              obtain ⟨e3, h3, h4⟩ := hasE_iff.1 hh
              exact absurd (by simpa using h4) (hq e3 h3)
          rw [he2] at hfs
          simp only [Option.map_some] at hfs
          have h7 := entP_len (e := e2) (by have := hG'.par_len (List.mem_of_find?_eq_some he2); omega)
          (repeat (first | refine VC.seq ?_ | refine VC.block ?_ | refine VC.kill ?_ | refine VC.skip ?_ | refine VC.exit ?_ | refine VC.regA ?_ | refine VC.condT ?_ | refine VC.condF ?_))
          apply VC.regU
          · (simp (config := {decide := false, maxSteps := 1000000}) (disch := omega) only [vev_call, putC_c0, putC_n0, putC_cs, ble0, List.getElem?_cons_zero, List.getElem?_cons_succ, runU, isCall, wantV, vev, evV, ofVal, ofAtom, atomB, cond_true, cond_false, PT.get, PT.set, PT.filt, PT.map, Option.getD_some, Option.getD_none, ret1V, ret1X, v_ld, v_ias, v_iad, v_fad, v_slsl, v_slarr, v_st, v_app, v_cpy, v_len, v_look, v_mset, elsV, partV, newV, free, atV, atI, atL, toVal, cellsV, okV, VSt.put, VSt.kill, VSt.alloc, VSt.frz, VSt.adopt, noref, norefB, deadB, deadV, nos, nm, nmL, nmB, nmE, Pa.eqb, Bool.not_false, Bool.not_true, Bool.and_true, Bool.true_and, Bool.false_and, Bool.and_false, bin, intOps, intBin, cvt, un, goInt, bndsV, bndV, Option.map_some, Option.map_none, List.map_cons, List.map_nil, Int.toNat_natCast, Nat.mul_one, Nat.zero_add, beq_true, beq_false, beq_self_eq_true, List.length_map, List.length_cons, List.length_nil, List.length_append, fillV, pEvV, repsV, List.append_nil, List.nil_append, if_pos, if_neg, reduceIte, List.getElem?_map, List.getElem?_drop, Nat.add_zero, List.getElem?_eq_getElem, Go.IntWalk.i64_in, wrap_u64, tmod_pos, eq_self, true_and, and_true, and_self, List.all_cons, List.all_nil, nmL_vi, flV_len, flP_len, flV_nm, flV_ok, flV_pv, flP_map, drop_flP, drop_flV, putC_flV, eqV2, eqV3, bneT, bneF, decide_true, decide_false, frzL_vi, frzL_flV, nmE_ag, nmE_at, frzE_ag, frzE_at, ofAg_len, ofAt_len, atL_vi, nmL_map_p, frzL_map_p, okL_p, toPVs_p, repsZ, nmL_reps, putC_vi, get_flV0, get_flV1, Int.toNat_zero, Int.toNat_one, Int.reduceToNat, eqV_slice, eqV_ptr, eqV_func, nilS, nilP, nilF, nmL_append, okL_vi, toPVs_vi, toPVs, toPV, frzV, frzL, frzB, resVV, vi, vb, nilV, sl1, bl1, pi, foldV, max2, min2, max_eq, min_eq, Int.tdiv_eq_ediv_of_nonneg, Int.cast_ofNat_Int, Option.isSome_none, Option.isSome_some, Option.isNone_none, Option.isNone_some, and_false, false_and, sl2, sl1P, slP, min_cast, take_map_pi, map_pi, Nat.sub_zero, Nat.zero_mul, List.length_take, decide_eq_true, decide_eq_false, Bool.true_eq_false, Bool.false_eq_true, beqT, beqF, ibeq, ibne, List.take_zero, List.take_succ_cons, List.drop_zero, List.drop_succ_cons, List.drop_nil, List.take_nil, List.cons_append, Bool.not_true, Bool.not_false, hk4, hks, hfs, h7])
            rfl
          (repeat (first | refine VC.seq ?_ | refine VC.block ?_ | refine VC.kill ?_ | refine VC.skip ?_ | refine VC.exit ?_ | refine VC.regA ?_ | refine VC.condT ?_ | refine VC.condF ?_))
          refine ⟨by simp, (L', off', C'), ⟨by rw [hnx, hLs], hC', hoff'⟩, ?_⟩
          (apply Go.Ab.V.G.weak; constructor <;> simp (config := {decide := true}) only [PT.Le, inV, mkB, PT.set, VSt.kill, VSt.adopt, VSt.alloc, PT.filt, PT.map, List.map_cons, List.map_nil, noref, norefB, deadB, deadV, nos, nm, nmL, nmB, nmE, Pa.eqb, cond_true, cond_false, Bool.not_true, Bool.not_false, Bool.and_true, Bool.true_and, nmL_vi, flV_len, flP_len, flV_nm, flV_ok, flV_pv, flP_map, drop_flP, drop_flV, putC_flV, eqV2, eqV3, bneT, bneF, decide_true, decide_false, frzL_vi, frzL_flV, nmE_ag, nmE_at, frzE_ag, frzE_at, ofAg_len, ofAt_len, atL_vi, nmL_map_p, frzL_map_p, okL_p, toPVs_p, repsZ, nmL_reps, putC_vi, get_flV0, get_flV1, Int.toNat_zero, Int.toNat_one, Int.reduceToNat, eqV_slice, eqV_ptr, eqV_func, nilS, nilP, nilF, nmL_append, true_or, or_true, and_self, true_and, and_true, Option.some.injEq, reduceCtorEq, false_or, or_false, VV.p.injEq, PV.at.injEq, Value.int.injEq, sl1, vi, bl1, vb, nilV, hn', hR'])
          (all_goals first | rfl | omega | exact ⟨rfl, by omega⟩)
        | false =>
          obtain ⟨E, hE⟩ : ∃ E : En, E = ⟨g, e.g, (s1, s2), e.d + 1⟩ := ⟨_, rfl⟩
          have hLs : addOne e.g e.d L' ((s1, s2), g) = L' ++ [E] := by unfold addOne; rw [if_neg (by rw [hh]; simp), hE]
          rw [find_none hh] at hfs
          simp only [Option.map_none, Option.map_some] at hfs hfe2
          obtain ⟨c0, c1, c2, c3, hCp⟩ := four (pad4_len e.par (by have := hG'.par_len (List.mem_of_getElem? he'); omega))
          have hen : entP e = [pi c0, pi c1, pi c2, pi c3, pi e.st.1, pi e.st.2, pi e.d] := by simp only [entP, hCp]; rfl
          rw [hen] at hfe2
          have hne : ofAg (esP (L' ++ [E])) = ofAg (esP L') ++ [(.agg [Value.int .i64 b0, .int .i64 b1, .int .i64 b2, .int .i64 b3].toArray, .agg [vi a0, vi a1, vi a2, vi a3, vi s1, vi s2, vi (e.d + 1)])] := by
            subst hE
            simp only [ofAg, esP, List.map_append, List.map_cons, List.map_nil, kV, hB, entP, hA]; rfl
          have hse := (hse (.agg [vi a0, vi a1, vi a2, vi a3, vi s1, vi s2, vi (e.d + 1)]) hh).trans hne.symm
          simp only [vi] at hse
          have hcm : ((C'.drop off').take (r' * 4) ++ [pi b0, pi b1, pi b2, pi b3]).map VV.p = List.take (r' * 4) (List.drop off' (C'.map VV.p)) ++ [.p (pi b0), .p (pi b1), .p (pi b2), .p (pi b3)] := by
            rw [List.map_append, List.map_take, List.map_drop]; rfl
          have hqe : (C'.drop off').take (r' * 4) ++ [pi b0, pi b1, pi b2, pi b3] = qP ((L' ++ [E]).drop (i + 1)) := by
            rw [List.drop_append_of_le_length (by omega), qP_append, ← hC', List.take_of_length_le (by rw [hC', hqr']; exact Nat.le_refl _)]
            subst hE
            simp only [qP, List.flatMap_cons, List.flatMap_nil, hB]; rfl
          have hnl : (L' ++ [E]).length - (i + 1) = r' + 1 := by
            rw [List.length_append, ← hR', List.length_drop]; simp; omega
          have htd : nmL (List.take (r' * 4) (List.drop off' (C'.map VV.p))) = [] := by rw [← List.map_drop, ← List.map_take]; exact nmL_map_p _
          (repeat (first | refine VC.seq ?_ | refine VC.block ?_ | refine VC.kill ?_ | refine VC.skip ?_ | refine VC.exit ?_ | refine VC.regA ?_ | refine VC.condT ?_ | refine VC.condF ?_))
          apply VC.regU
          · (simp (config := {decide := false, maxSteps := 1000000}) (disch := omega) only [vev_call, putC_c0, putC_n0, putC_cs, ble0, List.getElem?_cons_zero, List.getElem?_cons_succ, runU, isCall, wantV, vev, evV, ofVal, ofAtom, atomB, cond_true, cond_false, PT.get, PT.set, PT.filt, PT.map, Option.getD_some, Option.getD_none, ret1V, ret1X, v_ld, v_ias, v_iad, v_fad, v_slsl, v_slarr, v_st, v_app, v_cpy, v_len, v_look, v_mset, elsV, partV, newV, free, atV, atI, atL, toVal, cellsV, okV, VSt.put, VSt.kill, VSt.alloc, VSt.frz, VSt.adopt, noref, norefB, deadB, deadV, nos, nm, nmL, nmB, nmE, Pa.eqb, Bool.not_false, Bool.not_true, Bool.and_true, Bool.true_and, Bool.false_and, Bool.and_false, bin, intOps, intBin, cvt, un, goInt, bndsV, bndV, Option.map_some, Option.map_none, List.map_cons, List.map_nil, Int.toNat_natCast, Nat.mul_one, Nat.zero_add, beq_true, beq_false, beq_self_eq_true, List.length_map, List.length_cons, List.length_nil, List.length_append, fillV, pEvV, repsV, List.append_nil, List.nil_append, if_pos, if_neg, reduceIte, List.getElem?_map, List.getElem?_drop, Nat.add_zero, List.getElem?_eq_getElem, Go.IntWalk.i64_in, wrap_u64, tmod_pos, eq_self, true_and, and_true, and_self, List.all_cons, List.all_nil, nmL_vi, flV_len, flP_len, flV_nm, flV_ok, flV_pv, flP_map, drop_flP, drop_flV, putC_flV, eqV2, eqV3, bneT, bneF, decide_true, decide_false, frzL_vi, frzL_flV, nmE_ag, nmE_at, frzE_ag, frzE_at, ofAg_len, ofAt_len, atL_vi, nmL_map_p, frzL_map_p, okL_p, toPVs_p, repsZ, nmL_reps, putC_vi, get_flV0, get_flV1, Int.toNat_zero, Int.toNat_one, Int.reduceToNat, eqV_slice, eqV_ptr, eqV_func, nilS, nilP, nilF, nmL_append, okL_vi, toPVs_vi, toPVs, toPV, frzV, frzL, frzB, resVV, vi, vb, nilV, sl1, bl1, pi, foldV, max2, min2, max_eq, min_eq, Int.tdiv_eq_ediv_of_nonneg, Int.cast_ofNat_Int, Option.isSome_none, Option.isSome_some, Option.isNone_none, Option.isNone_some, and_false, false_and, sl2, sl1P, slP, min_cast, take_map_pi, map_pi, Nat.sub_zero, Nat.zero_mul, List.length_take, decide_eq_true, decide_eq_false, Bool.true_eq_false, Bool.false_eq_true, beqT, beqF, ibeq, ibne, List.take_zero, List.take_succ_cons, List.drop_zero, List.drop_succ_cons, List.drop_nil, List.take_nil, List.cons_append, Bool.not_true, Bool.not_false, hk4, hks, hfs])
            rfl
          (repeat (first | refine VC.seq ?_ | refine VC.block ?_ | refine VC.kill ?_ | refine VC.skip ?_ | refine VC.exit ?_ | refine VC.regA ?_ | refine VC.condT ?_ | refine VC.condF ?_))
          apply VC.regU
          · (simp (config := {decide := false, maxSteps := 1000000}) (disch := omega) only [vev_call, putC_c0, putC_n0, putC_cs, ble0, List.getElem?_cons_zero, List.getElem?_cons_succ, runU, isCall, wantV, vev, evV, ofVal, ofAtom, atomB, cond_true, cond_false, PT.get, PT.set, PT.filt, PT.map, Option.getD_some, Option.getD_none, ret1V, ret1X, v_ld, v_ias, v_iad, v_fad, v_slsl, v_slarr, v_st, v_app, v_cpy, v_len, v_look, v_mset, elsV, partV, newV, free, atV, atI, atL, toVal, cellsV, okV, VSt.put, VSt.kill, VSt.alloc, VSt.frz, VSt.adopt, noref, norefB, deadB, deadV, nos, nm, nmL, nmB, nmE, Pa.eqb, Bool.not_false, Bool.not_true, Bool.and_true, Bool.true_and, Bool.false_and, Bool.and_false, bin, intOps, intBin, cvt, un, goInt, bndsV, bndV, Option.map_some, Option.map_none, List.map_cons, List.map_nil, Int.toNat_natCast, Nat.mul_one, Nat.zero_add, beq_true, beq_false, beq_self_eq_true, List.length_map, List.length_cons, List.length_nil, List.length_append, fillV, pEvV, repsV, List.append_nil, List.nil_append, if_pos, if_neg, reduceIte, List.getElem?_map, List.getElem?_drop, Nat.add_zero, List.getElem?_eq_getElem, Go.IntWalk.i64_in, wrap_u64, tmod_pos, eq_self, true_and, and_true, and_self, List.all_cons, List.all_nil, nmL_vi, flV_len, flP_len, flV_nm, flV_ok, flV_pv, flP_map, drop_flP, drop_flV, putC_flV, eqV2, eqV3, bneT, bneF, decide_true, decide_false, frzL_vi, frzL_flV, nmE_ag, nmE_at, frzE_ag, frzE_at, ofAg_len, ofAt_len, atL_vi, nmL_map_p, frzL_map_p, okL_p, toPVs_p, repsZ, nmL_reps, putC_vi, get_flV0, get_flV1, Int.toNat_zero, Int.toNat_one, Int.reduceToNat, eqV_slice, eqV_ptr, eqV_func, nilS, nilP, nilF, nmL_append, okL_vi, toPVs_vi, toPVs, toPV, frzV, frzL, frzB, resVV, vi, vb, nilV, sl1, bl1, pi, foldV, max2, min2, max_eq, min_eq, Int.tdiv_eq_ediv_of_nonneg, Int.cast_ofNat_Int, Option.isSome_none, Option.isSome_some, Option.isNone_none, Option.isNone_some, and_false, false_and, sl2, sl1P, slP, min_cast, take_map_pi, map_pi, Nat.sub_zero, Nat.zero_mul, List.length_take, decide_eq_true, decide_eq_false, Bool.true_eq_false, Bool.false_eq_true, beqT, beqF, ibeq, ibne, List.take_zero, List.take_succ_cons, List.drop_zero, List.drop_succ_cons, List.drop_nil, List.take_nil, List.cons_append, Bool.not_true, Bool.not_false, hk4, hks, hfs, hke, hfe2, hse])
            rfl
          (repeat (first | refine VC.seq ?_ | refine VC.block ?_ | refine VC.kill ?_ | refine VC.skip ?_ | refine VC.exit ?_ | refine VC.regA ?_ | refine VC.condT ?_ | refine VC.condF ?_))
          refine ⟨by simp, (L' ++ [E], 0, (C'.drop off').take (r' * 4) ++ [pi b0, pi b1, pi b2, pi b3]), ⟨by rw [hnx, hLs], by rw [List.drop_zero]; exact hqe, Nat.zero_le _⟩, ?_⟩
          refine G.osobA (p := p10) (n := r' + 1) 0 ?_ (by omega)
          (simp only [VSt.kill, VSt.osob, VSt.adoptB, VSt.adopt, VSt.alloc, PT.filt, norefB, deadB, deadV, PT.map, Option.map_some, Option.map_none, List.map_cons, List.map_nil, noref, nos, nm, nmL, nmB, nmE, Pa.eqb, PT.set, mkB, inV, cond_true, cond_false, Bool.and_true, Bool.not_false, Bool.not_true, List.set_cons_zero, List.set_cons_succ])
          (apply Go.Ab.V.G.weak; constructor <;> simp (config := {decide := true}) only [PT.Le, inV, mkB, PT.set, VSt.kill, VSt.adopt, VSt.alloc, PT.filt, PT.map, List.map_cons, List.map_nil, noref, norefB, deadB, deadV, nos, nm, nmL, nmB, nmE, Pa.eqb, cond_true, cond_false, Bool.not_true, Bool.not_false, Bool.and_true, Bool.true_and, nmL_vi, flV_len, flP_len, flV_nm, flV_ok, flV_pv, flP_map, drop_flP, drop_flV, putC_flV, eqV2, eqV3, bneT, bneF, decide_true, decide_false, frzL_vi, frzL_flV, nmE_ag, nmE_at, frzE_ag, frzE_at, ofAg_len, ofAt_len, atL_vi, nmL_map_p, frzL_map_p, okL_p, toPVs_p, repsZ, nmL_reps, putC_vi, get_flV0, get_flV1, Int.toNat_zero, Int.toNat_one, Int.reduceToNat, eqV_slice, eqV_ptr, eqV_func, nilS, nilP, nilF, nmL_append, true_or, or_true, and_self, true_and, and_true, Option.some.injEq, reduceCtorEq, false_or, or_false, VV.p.injEq, PV.at.injEq, Value.int.injEq, sl1, vi, bl1, vb, nilV, hcm, hnl, pi])
          exact congrArg VB.cells hcm
      · rintro _ ⟨L', off', C'⟩ ⟨hL', hC', hoff'⟩
        simp only at hL' hC' hoff'
        have hnext : bf x f c (i + 1) = L' := by
          show (match (bf x f c i)[i]? with
            | some e => addAll e.g e.d (bf x f c i) (succs x c e.g)
            | none => bf x f c i) = _
          rw [hL, hLi, hL', List.length_map, List.take_length]
        (simp only [VSt.kill, VSt.osob, VSt.adoptB, VSt.adopt, VSt.alloc, PT.filt, norefB, deadB, deadV, PT.map, Option.map_some, Option.map_none, List.map_cons, List.map_nil, noref, nos, nm, nmL, nmB, nmE, Pa.eqb, PT.set, mkB, inV, cond_true, cond_false, Bool.and_true, Bool.not_false, Bool.not_true, List.set_cons_zero, List.set_cons_succ])
        (repeat (first | refine VC.seq ?_ | refine VC.block ?_ | refine VC.kill ?_ | refine VC.skip ?_ | refine VC.exit ?_ | refine VC.regA ?_ | refine VC.condT ?_ | refine VC.condF ?_))
        refine ⟨_, (i + 1, off', C'), ?_, ⟨rfl, by simp only; omega, by simp only; rw [hnext]; exact hC', hoff'⟩, ?_⟩
        · simp only; omega
        · simp only [hnext]
          (apply Go.Ab.V.G.weak; constructor <;> simp (config := {decide := true}) only [PT.Le, inV, mkB, PT.set, VSt.kill, VSt.adopt, VSt.alloc, PT.filt, PT.map, List.map_cons, List.map_nil, noref, norefB, deadB, deadV, nos, nm, nmL, nmB, nmE, Pa.eqb, cond_true, cond_false, Bool.not_true, Bool.not_false, Bool.and_true, Bool.true_and, nmL_vi, flV_len, flP_len, flV_nm, flV_ok, flV_pv, flP_map, drop_flP, drop_flV, putC_flV, eqV2, eqV3, bneT, bneF, decide_true, decide_false, frzL_vi, frzL_flV, nmE_ag, nmE_at, frzE_ag, frzE_at, ofAg_len, ofAt_len, atL_vi, nmL_map_p, frzL_map_p, okL_p, toPVs_p, repsZ, nmL_reps, putC_vi, get_flV0, get_flV1, Int.toNat_zero, Int.toNat_one, Int.reduceToNat, eqV_slice, eqV_ptr, eqV_func, nilS, nilP, nilF, nmL_append, true_or, or_true, and_self, true_and, and_true, Option.some.injEq, reduceCtorEq, false_or, or_false, VV.p.injEq, PV.at.injEq, Value.int.injEq, sl1, vi, bl1, vb, nilV])
          (all_goals first | rfl | omega | exact ⟨rfl, by omega⟩)
    · have hiM : i = M := by omega
      subst hiM
      cases hfb : fb with
      | false =>
        have := (h0 hfb).1
        rw [hL] at this; omega
      | true =>
        obtain ⟨e', he', hp, rfl⟩ := h1 hfb
        rw [hL, hLi] at he'; cases he'
        rw [hp, hA]
        (repeat (first | refine VC.seq ?_ | refine VC.block ?_ | refine VC.kill ?_ | refine VC.skip ?_ | refine VC.exit ?_ | refine VC.regA ?_ | refine VC.condT ?_ | refine VC.condF ?_))
        rw [hL]
        simp only [List.map_cons, List.map_nil]
        refine VC.ret (Fin.of rfl rfl ?_ rfl rfl ?_)
        · simp [mkB, PT.set, PT.Le, p18]
        · simp [subs, nm, nmL, nmsB, nmB, nmE_ag, nos, Pa.eqb, vi, vb]
end Go.Ab.Jug
