/- Proved: for every input the law JugTwos returns true, and each argument reads afterwards as it read before. No condition. -/
import Derived.Test.YtcbhobkfffgfdaaProg
import Derived.Test.YtcbhobkfffgfdaaRows
import Derived.WalkKit
import Derived.ProofKit
import Derived.OpenShut
import Derived.ShutString
import Derived.ChangeOld
import Derived.Below
import Derived.Carry
import Derived.Test.YtcbhobkfffgfdaaA02
set_option linter.unusedSimpArgs false
set_option linter.unusedVariables false
namespace Go.Ab.Jug
noncomputable section
set_option maxRecDepth 100000
@[reducible] def p0 : Pa := .z
@[reducible] def p1 : Pa := (.l .z)
@[reducible] def p2 : Pa := (.r .z)
@[reducible] def p3 : Pa := (.l (.l .z))
@[reducible] def p4 : Pa := (.r (.l .z))
@[reducible] def p5 : Pa := (.l (.r .z))
@[reducible] def p6 : Pa := (.r (.r .z))
@[reducible] def p7 : Pa := (.l (.l (.l .z)))
@[reducible] def p8 : Pa := (.r (.l (.l .z)))
@[reducible] def p9 : Pa := (.l (.r (.l .z)))
@[reducible] def p10 : Pa := (.r (.r (.l .z)))
@[reducible] def p11 : Pa := (.l (.l (.r .z)))
@[reducible] def p12 : Pa := (.r (.l (.r .z)))
@[reducible] def p13 : Pa := (.l (.r (.r .z)))
@[reducible] def p14 : Pa := (.r (.r (.r .z)))
@[reducible] def p15 : Pa := (.l (.l (.l (.l .z))))
@[reducible] def p16 : Pa := (.r (.l (.l (.l .z))))
@[reducible] def p17 : Pa := (.l (.r (.l (.l .z))))
@[reducible] def p18 : Pa := (.r (.r (.l (.l .z))))
@[reducible] def p19 : Pa := (.l (.l (.r (.l .z))))
@[reducible] def p20 : Pa := (.r (.l (.r (.l .z))))
@[reducible] def p21 : Pa := (.l (.r (.r (.l .z))))
@[reducible] def p22 : Pa := (.r (.r (.r (.l .z))))
@[reducible] def p23 : Pa := (.l (.l (.l (.r .z))))
@[reducible] def p24 : Pa := (.r (.l (.l (.r .z))))
@[reducible] def p25 : Pa := (.l (.r (.l (.r .z))))
@[reducible] def p26 : Pa := (.r (.r (.l (.r .z))))
@[reducible] def p27 : Pa := (.l (.l (.r (.r .z))))
@[reducible] def p28 : Pa := (.r (.l (.r (.r .z))))
@[reducible] def p29 : Pa := (.l (.r (.r (.r .z))))
@[reducible] def p30 : Pa := (.r (.r (.r (.r .z))))
@[reducible] def p31 : Pa := (.l (.l (.l (.l (.l .z)))))
@[reducible] def p32 : Pa := (.r (.l (.l (.l (.l .z)))))
@[reducible] def p33 : Pa := (.l (.r (.l (.l (.l .z)))))
@[reducible] def p34 : Pa := (.r (.r (.l (.l (.l .z)))))
@[reducible] def p35 : Pa := (.l (.l (.r (.l (.l .z)))))
@[reducible] def p36 : Pa := (.r (.l (.r (.l (.l .z)))))
@[reducible] def p37 : Pa := (.l (.r (.r (.l (.l .z)))))
@[reducible] def p38 : Pa := (.r (.r (.r (.l (.l .z)))))
@[reducible] def p39 : Pa := (.l (.l (.l (.r (.l .z)))))
@[reducible] def p40 : Pa := (.r (.l (.l (.r (.l .z)))))
@[reducible] def p41 : Pa := (.l (.r (.l (.r (.l .z)))))
@[reducible] def p42 : Pa := (.r (.r (.l (.r (.l .z)))))
@[reducible] def p43 : Pa := (.l (.l (.r (.r (.l .z)))))
@[reducible] def p44 : Pa := (.r (.l (.r (.r (.l .z)))))
@[reducible] def p45 : Pa := (.l (.r (.r (.r (.l .z)))))
@[reducible] def p46 : Pa := (.r (.r (.r (.r (.l .z)))))
@[reducible] def p47 : Pa := (.l (.l (.l (.l (.r .z)))))
@[reducible] def p48 : Pa := (.r (.l (.l (.l (.r .z)))))
@[reducible] def p49 : Pa := (.l (.r (.l (.l (.r .z)))))
@[reducible] def p50 : Pa := (.r (.r (.l (.l (.r .z)))))
@[reducible] def p51 : Pa := (.l (.l (.r (.l (.r .z)))))
@[reducible] def p52 : Pa := (.r (.l (.r (.l (.r .z)))))
@[reducible] def p53 : Pa := (.l (.r (.r (.l (.r .z)))))
@[reducible] def p54 : Pa := (.r (.r (.r (.l (.r .z)))))
@[reducible] def p55 : Pa := (.l (.l (.l (.r (.r .z)))))
@[reducible] def p56 : Pa := (.r (.l (.l (.r (.r .z)))))
@[reducible] def p57 : Pa := (.l (.r (.l (.r (.r .z)))))
@[reducible] def p58 : Pa := (.r (.r (.l (.r (.r .z)))))
@[reducible] def p59 : Pa := (.l (.l (.r (.r (.r .z)))))
@[reducible] def p60 : Pa := (.r (.l (.r (.r (.r .z)))))
@[reducible] def p61 : Pa := (.l (.r (.r (.r (.r .z)))))
@[reducible] def p62 : Pa := (.r (.r (.r (.r (.r .z)))))
@[reducible] def p63 : Pa := (.l (.l (.l (.l (.l (.l .z))))))
@[reducible] def p64 : Pa := (.r (.l (.l (.l (.l (.l .z))))))
@[reducible] def p65 : Pa := (.l (.r (.l (.l (.l (.l .z))))))
@[reducible] def p66 : Pa := (.r (.r (.l (.l (.l (.l .z))))))
@[reducible] def p67 : Pa := (.l (.l (.r (.l (.l (.l .z))))))
@[reducible] def p68 : Pa := (.r (.l (.r (.l (.l (.l .z))))))
@[reducible] def p69 : Pa := (.l (.r (.r (.l (.l (.l .z))))))
@[reducible] def p70 : Pa := (.r (.r (.r (.l (.l (.l .z))))))
@[reducible] def p71 : Pa := (.l (.l (.l (.r (.l (.l .z))))))
@[reducible] def p72 : Pa := (.r (.l (.l (.r (.l (.l .z))))))
@[reducible] def p73 : Pa := (.l (.r (.l (.r (.l (.l .z))))))
@[reducible] def p74 : Pa := (.r (.r (.l (.r (.l (.l .z))))))
@[reducible] def p75 : Pa := (.l (.l (.r (.r (.l (.l .z))))))
@[reducible] def p76 : Pa := (.r (.l (.r (.r (.l (.l .z))))))
@[reducible] def p77 : Pa := (.l (.r (.r (.r (.l (.l .z))))))
@[reducible] def p78 : Pa := (.r (.r (.r (.r (.l (.l .z))))))
@[reducible] def p79 : Pa := (.l (.l (.l (.l (.r (.l .z))))))
@[reducible] def p80 : Pa := (.r (.l (.l (.l (.r (.l .z))))))
@[reducible] def p81 : Pa := (.l (.r (.l (.l (.r (.l .z))))))
@[reducible] def p82 : Pa := (.r (.r (.l (.l (.r (.l .z))))))
@[reducible] def p83 : Pa := (.l (.l (.r (.l (.r (.l .z))))))
@[reducible] def p84 : Pa := (.r (.l (.r (.l (.r (.l .z))))))
@[reducible] def p85 : Pa := (.l (.r (.r (.l (.r (.l .z))))))
@[reducible] def p86 : Pa := (.r (.r (.r (.l (.r (.l .z))))))
@[reducible] def p87 : Pa := (.l (.l (.l (.r (.r (.l .z))))))
@[reducible] def p88 : Pa := (.r (.l (.l (.r (.r (.l .z))))))
@[reducible] def p89 : Pa := (.l (.r (.l (.r (.r (.l .z))))))
@[reducible] def p90 : Pa := (.r (.r (.l (.r (.r (.l .z))))))
@[reducible] def p91 : Pa := (.l (.l (.r (.r (.r (.l .z))))))
@[reducible] def p92 : Pa := (.r (.l (.r (.r (.r (.l .z))))))
@[reducible] def p93 : Pa := (.l (.r (.r (.r (.r (.l .z))))))
@[reducible] def p94 : Pa := (.r (.r (.r (.r (.r (.l .z))))))
@[reducible] def p95 : Pa := (.l (.l (.l (.l (.l (.r .z))))))
@[reducible] def p96 : Pa := (.r (.l (.l (.l (.l (.r .z))))))
@[reducible] def p97 : Pa := (.l (.r (.l (.l (.l (.r .z))))))
@[reducible] def p98 : Pa := (.r (.r (.l (.l (.l (.r .z))))))
@[reducible] def p99 : Pa := (.l (.l (.r (.l (.l (.r .z))))))
@[reducible] def p100 : Pa := (.r (.l (.r (.l (.l (.r .z))))))
@[reducible] def p101 : Pa := (.l (.r (.r (.l (.l (.r .z))))))
@[reducible] def p102 : Pa := (.r (.r (.r (.l (.l (.r .z))))))
@[reducible] def p103 : Pa := (.l (.l (.l (.r (.l (.r .z))))))
@[reducible] def p104 : Pa := (.r (.l (.l (.r (.l (.r .z))))))
@[reducible] def p105 : Pa := (.l (.r (.l (.r (.l (.r .z))))))
@[reducible] def p106 : Pa := (.r (.r (.l (.r (.l (.r .z))))))
@[reducible] def p107 : Pa := (.l (.l (.r (.r (.l (.r .z))))))
@[reducible] def p108 : Pa := (.r (.l (.r (.r (.l (.r .z))))))
@[reducible] def p109 : Pa := (.l (.r (.r (.r (.l (.r .z))))))
@[reducible] def p110 : Pa := (.r (.r (.r (.r (.l (.r .z))))))
@[reducible] def p111 : Pa := (.l (.l (.l (.l (.r (.r .z))))))
@[reducible] def p112 : Pa := (.r (.l (.l (.l (.r (.r .z))))))
@[reducible] def p113 : Pa := (.l (.r (.l (.l (.r (.r .z))))))
@[reducible] def p114 : Pa := (.r (.r (.l (.l (.r (.r .z))))))
@[reducible] def p115 : Pa := (.l (.l (.r (.l (.r (.r .z))))))
@[reducible] def p116 : Pa := (.r (.l (.r (.l (.r (.r .z))))))
@[reducible] def p117 : Pa := (.l (.r (.r (.l (.r (.r .z))))))
@[reducible] def p118 : Pa := (.r (.r (.r (.l (.r (.r .z))))))
@[reducible] def p119 : Pa := (.l (.l (.l (.r (.r (.r .z))))))
@[reducible] def p120 : Pa := (.r (.l (.l (.r (.r (.r .z))))))
@[reducible] def p121 : Pa := (.l (.r (.l (.r (.r (.r .z))))))
@[reducible] def p122 : Pa := (.r (.r (.l (.r (.r (.r .z))))))
@[reducible] def p123 : Pa := (.l (.l (.r (.r (.r (.r .z))))))
@[reducible] def p124 : Pa := (.r (.l (.r (.r (.r (.r .z))))))
@[reducible] def p125 : Pa := (.l (.r (.r (.r (.r (.r .z))))))
@[reducible] def p126 : Pa := (.r (.r (.r (.r (.r (.r .z))))))
@[reducible] def p127 : Pa := (.l (.l (.l (.l (.l (.l (.l .z)))))))
@[reducible] def p128 : Pa := (.r (.l (.l (.l (.l (.l (.l .z)))))))
@[reducible] def p129 : Pa := (.l (.r (.l (.l (.l (.l (.l .z)))))))
@[reducible] def p130 : Pa := (.r (.r (.l (.l (.l (.l (.l .z)))))))
@[reducible] def p131 : Pa := (.l (.l (.r (.l (.l (.l (.l .z)))))))
@[reducible] def p132 : Pa := (.r (.l (.r (.l (.l (.l (.l .z)))))))
@[reducible] def p133 : Pa := (.l (.r (.r (.l (.l (.l (.l .z)))))))
@[reducible] def p134 : Pa := (.r (.r (.r (.l (.l (.l (.l .z)))))))
@[reducible] def p135 : Pa := (.l (.l (.l (.r (.l (.l (.l .z)))))))
@[reducible] def p136 : Pa := (.r (.l (.l (.r (.l (.l (.l .z)))))))
@[reducible] def p137 : Pa := (.l (.r (.l (.r (.l (.l (.l .z)))))))
@[reducible] def p138 : Pa := (.r (.r (.l (.r (.l (.l (.l .z)))))))
@[reducible] def p139 : Pa := (.l (.l (.r (.r (.l (.l (.l .z)))))))
@[reducible] def p140 : Pa := (.r (.l (.r (.r (.l (.l (.l .z)))))))
@[reducible] def p141 : Pa := (.l (.r (.r (.r (.l (.l (.l .z)))))))
@[reducible] def p142 : Pa := (.r (.r (.r (.r (.l (.l (.l .z)))))))
@[reducible] def p143 : Pa := (.l (.l (.l (.l (.r (.l (.l .z)))))))
@[reducible] def p144 : Pa := (.r (.l (.l (.l (.r (.l (.l .z)))))))
@[reducible] def p145 : Pa := (.l (.r (.l (.l (.r (.l (.l .z)))))))
@[reducible] def p146 : Pa := (.r (.r (.l (.l (.r (.l (.l .z)))))))
@[reducible] def p147 : Pa := (.l (.l (.r (.l (.r (.l (.l .z)))))))
@[reducible] def p148 : Pa := (.r (.l (.r (.l (.r (.l (.l .z)))))))
@[reducible] def p149 : Pa := (.l (.r (.r (.l (.r (.l (.l .z)))))))
@[reducible] def p150 : Pa := (.r (.r (.r (.l (.r (.l (.l .z)))))))
@[reducible] def p151 : Pa := (.l (.l (.l (.r (.r (.l (.l .z)))))))
@[reducible] def p152 : Pa := (.r (.l (.l (.r (.r (.l (.l .z)))))))
@[reducible] def p153 : Pa := (.l (.r (.l (.r (.r (.l (.l .z)))))))
@[reducible] def p154 : Pa := (.r (.r (.l (.r (.r (.l (.l .z)))))))
@[reducible] def p155 : Pa := (.l (.l (.r (.r (.r (.l (.l .z)))))))
@[reducible] def p156 : Pa := (.r (.l (.r (.r (.r (.l (.l .z)))))))
@[reducible] def p157 : Pa := (.l (.r (.r (.r (.r (.l (.l .z)))))))
@[reducible] def p158 : Pa := (.r (.r (.r (.r (.r (.l (.l .z)))))))
@[reducible] def p159 : Pa := (.l (.l (.l (.l (.l (.r (.l .z)))))))
@[reducible] def p160 : Pa := (.r (.l (.l (.l (.l (.r (.l .z)))))))
@[reducible] def p161 : Pa := (.l (.r (.l (.l (.l (.r (.l .z)))))))
@[reducible] def p162 : Pa := (.r (.r (.l (.l (.l (.r (.l .z)))))))
@[reducible] def p163 : Pa := (.l (.l (.r (.l (.l (.r (.l .z)))))))
@[reducible] def p164 : Pa := (.r (.l (.r (.l (.l (.r (.l .z)))))))
@[reducible] def p165 : Pa := (.l (.r (.r (.l (.l (.r (.l .z)))))))
@[reducible] def p166 : Pa := (.r (.r (.r (.l (.l (.r (.l .z)))))))
@[reducible] def p167 : Pa := (.l (.l (.l (.r (.l (.r (.l .z)))))))
@[reducible] def p168 : Pa := (.r (.l (.l (.r (.l (.r (.l .z)))))))
@[reducible] def p169 : Pa := (.l (.r (.l (.r (.l (.r (.l .z)))))))
@[reducible] def p170 : Pa := (.r (.r (.l (.r (.l (.r (.l .z)))))))
@[reducible] def p171 : Pa := (.l (.l (.r (.r (.l (.r (.l .z)))))))
@[reducible] def p172 : Pa := (.r (.l (.r (.r (.l (.r (.l .z)))))))
@[reducible] def p173 : Pa := (.l (.r (.r (.r (.l (.r (.l .z)))))))
@[reducible] def p174 : Pa := (.r (.r (.r (.r (.l (.r (.l .z)))))))
@[reducible] def p175 : Pa := (.l (.l (.l (.l (.r (.r (.l .z)))))))
@[reducible] def p176 : Pa := (.r (.l (.l (.l (.r (.r (.l .z)))))))
@[reducible] def p177 : Pa := (.l (.r (.l (.l (.r (.r (.l .z)))))))
@[reducible] def p178 : Pa := (.r (.r (.l (.l (.r (.r (.l .z)))))))
@[reducible] def p179 : Pa := (.l (.l (.r (.l (.r (.r (.l .z)))))))
@[reducible] def p180 : Pa := (.r (.l (.r (.l (.r (.r (.l .z)))))))
@[reducible] def p181 : Pa := (.l (.r (.r (.l (.r (.r (.l .z)))))))
@[reducible] def p182 : Pa := (.r (.r (.r (.l (.r (.r (.l .z)))))))
@[reducible] def p183 : Pa := (.l (.l (.l (.r (.r (.r (.l .z)))))))
@[reducible] def p184 : Pa := (.r (.l (.l (.r (.r (.r (.l .z)))))))
@[reducible] def p185 : Pa := (.l (.r (.l (.r (.r (.r (.l .z)))))))
@[reducible] def p186 : Pa := (.r (.r (.l (.r (.r (.r (.l .z)))))))
@[reducible] def p187 : Pa := (.l (.l (.r (.r (.r (.r (.l .z)))))))
@[reducible] def p188 : Pa := (.r (.l (.r (.r (.r (.r (.l .z)))))))
@[reducible] def p189 : Pa := (.l (.r (.r (.r (.r (.r (.l .z)))))))
@[reducible] def p190 : Pa := (.r (.r (.r (.r (.r (.r (.l .z)))))))
@[reducible] def p191 : Pa := (.l (.l (.l (.l (.l (.l (.r .z)))))))
@[reducible] def p192 : Pa := (.r (.l (.l (.l (.l (.l (.r .z)))))))
@[reducible] def p193 : Pa := (.l (.r (.l (.l (.l (.l (.r .z)))))))
@[reducible] def p194 : Pa := (.r (.r (.l (.l (.l (.l (.r .z)))))))
@[reducible] def p195 : Pa := (.l (.l (.r (.l (.l (.l (.r .z)))))))
@[reducible] def p196 : Pa := (.r (.l (.r (.l (.l (.l (.r .z)))))))
@[reducible] def p197 : Pa := (.l (.r (.r (.l (.l (.l (.r .z)))))))
@[reducible] def p198 : Pa := (.r (.r (.r (.l (.l (.l (.r .z)))))))
@[reducible] def p199 : Pa := (.l (.l (.l (.r (.l (.l (.r .z)))))))
@[reducible] def p200 : Pa := (.r (.l (.l (.r (.l (.l (.r .z)))))))
@[reducible] def p201 : Pa := (.l (.r (.l (.r (.l (.l (.r .z)))))))
@[reducible] def p202 : Pa := (.r (.r (.l (.r (.l (.l (.r .z)))))))
@[reducible] def p203 : Pa := (.l (.l (.r (.r (.l (.l (.r .z)))))))
@[reducible] def p204 : Pa := (.r (.l (.r (.r (.l (.l (.r .z)))))))
@[reducible] def p205 : Pa := (.l (.r (.r (.r (.l (.l (.r .z)))))))
@[reducible] def p206 : Pa := (.r (.r (.r (.r (.l (.l (.r .z)))))))
@[reducible] def p207 : Pa := (.l (.l (.l (.l (.r (.l (.r .z)))))))
@[reducible] def p208 : Pa := (.r (.l (.l (.l (.r (.l (.r .z)))))))
@[reducible] def p209 : Pa := (.l (.r (.l (.l (.r (.l (.r .z)))))))
@[reducible] def p210 : Pa := (.r (.r (.l (.l (.r (.l (.r .z)))))))
@[reducible] def p211 : Pa := (.l (.l (.r (.l (.r (.l (.r .z)))))))
@[reducible] def p212 : Pa := (.r (.l (.r (.l (.r (.l (.r .z)))))))
@[reducible] def p213 : Pa := (.l (.r (.r (.l (.r (.l (.r .z)))))))
def i6 : ST := (.nd undef (.nd undef (.nd undef .lf .lf) (.nd undef .lf .lf)) (.nd undef (.nd undef .lf .lf) .lf))
def i7 : ST := (.nd undef (.nd undef (.nd undef .lf .lf) (.nd undef .lf .lf)) (.nd undef (.nd undef .lf .lf) (.nd undef .lf .lf)))
def i8 : ST := (.nd undef (.nd undef (.nd undef (.nd undef .lf .lf) .lf) (.nd undef .lf .lf)) (.nd undef (.nd undef .lf .lf) (.nd undef .lf .lf)))
def i9 : ST := (.nd undef (.nd undef (.nd undef (.nd undef .lf .lf) .lf) (.nd undef .lf .lf)) (.nd undef (.nd undef (.nd undef .lf .lf) .lf) (.nd undef .lf .lf)))
def i12 : ST := (.nd undef (.nd undef (.nd undef (.nd undef .lf .lf) (.nd undef .lf .lf)) (.nd undef (.nd undef .lf .lf) .lf)) (.nd undef (.nd undef (.nd undef .lf .lf) .lf) (.nd undef (.nd undef .lf .lf) .lf)))
def i13 : ST := (.nd undef (.nd undef (.nd undef (.nd undef .lf .lf) (.nd undef .lf .lf)) (.nd undef (.nd undef .lf .lf) .lf)) (.nd undef (.nd undef (.nd undef .lf .lf) (.nd undef .lf .lf)) (.nd undef (.nd undef .lf .lf) .lf)))
def i14 : ST := (.nd undef (.nd undef (.nd undef (.nd undef .lf .lf) (.nd undef .lf .lf)) (.nd undef (.nd undef .lf .lf) (.nd undef .lf .lf))) (.nd undef (.nd undef (.nd undef .lf .lf) (.nd undef .lf .lf)) (.nd undef (.nd undef .lf .lf) .lf)))
def i17 : ST := (.nd undef (.nd undef (.nd undef (.nd undef (.nd undef .lf .lf) .lf) (.nd undef .lf .lf)) (.nd undef (.nd undef .lf .lf) (.nd undef .lf .lf))) (.nd undef (.nd undef (.nd undef (.nd undef .lf .lf) .lf) (.nd undef .lf .lf)) (.nd undef (.nd undef .lf .lf) (.nd undef .lf .lf))))
def i18 : ST := (.nd undef (.nd undef (.nd undef (.nd undef (.nd undef .lf .lf) .lf) (.nd undef .lf .lf)) (.nd undef (.nd undef (.nd undef .lf .lf) .lf) (.nd undef .lf .lf))) (.nd undef (.nd undef (.nd undef (.nd undef .lf .lf) .lf) (.nd undef .lf .lf)) (.nd undef (.nd undef .lf .lf) (.nd undef .lf .lf))))
def i19 : ST := (.nd undef (.nd undef (.nd undef (.nd undef (.nd undef .lf .lf) .lf) (.nd undef .lf .lf)) (.nd undef (.nd undef (.nd undef .lf .lf) .lf) (.nd undef .lf .lf))) (.nd undef (.nd undef (.nd undef (.nd undef .lf .lf) .lf) (.nd undef .lf .lf)) (.nd undef (.nd undef (.nd undef .lf .lf) .lf) (.nd undef .lf .lf))))
def i20 : ST := (.nd undef (.nd undef (.nd undef (.nd undef (.nd undef .lf .lf) .lf) (.nd undef (.nd undef .lf .lf) .lf)) (.nd undef (.nd undef (.nd undef .lf .lf) .lf) (.nd undef .lf .lf))) (.nd undef (.nd undef (.nd undef (.nd undef .lf .lf) .lf) (.nd undef .lf .lf)) (.nd undef (.nd undef (.nd undef .lf .lf) .lf) (.nd undef .lf .lf))))
def i21 : ST := (.nd undef (.nd undef (.nd undef (.nd undef (.nd undef .lf .lf) .lf) (.nd undef (.nd undef .lf .lf) .lf)) (.nd undef (.nd undef (.nd undef .lf .lf) .lf) (.nd undef .lf .lf))) (.nd undef (.nd undef (.nd undef (.nd undef .lf .lf) .lf) (.nd undef (.nd undef .lf .lf) .lf)) (.nd undef (.nd undef (.nd undef .lf .lf) .lf) (.nd undef .lf .lf))))
def i25 : ST := (.nd undef (.nd undef (.nd undef (.nd undef (.nd undef .lf .lf) (.nd undef .lf .lf)) (.nd undef (.nd undef .lf .lf) .lf)) (.nd undef (.nd undef (.nd undef .lf .lf) .lf) (.nd undef (.nd undef .lf .lf) .lf))) (.nd undef (.nd undef (.nd undef (.nd undef .lf .lf) (.nd undef .lf .lf)) (.nd undef (.nd undef .lf .lf) .lf)) (.nd undef (.nd undef (.nd undef .lf .lf) .lf) (.nd undef (.nd undef .lf .lf) .lf))))
def i26 : ST := (.nd undef (.nd undef (.nd undef (.nd undef (.nd undef .lf .lf) (.nd undef .lf .lf)) (.nd undef (.nd undef .lf .lf) .lf)) (.nd undef (.nd undef (.nd undef .lf .lf) (.nd undef .lf .lf)) (.nd undef (.nd undef .lf .lf) .lf))) (.nd undef (.nd undef (.nd undef (.nd undef .lf .lf) (.nd undef .lf .lf)) (.nd undef (.nd undef .lf .lf) .lf)) (.nd undef (.nd undef (.nd undef .lf .lf) .lf) (.nd undef (.nd undef .lf .lf) .lf))))
def i28 : ST := (.nd undef (.nd undef (.nd undef (.nd undef (.nd undef .lf .lf) (.nd undef .lf .lf)) (.nd undef (.nd undef .lf .lf) (.nd undef .lf .lf))) (.nd undef (.nd undef (.nd undef .lf .lf) (.nd undef .lf .lf)) (.nd undef (.nd undef .lf .lf) .lf))) (.nd undef (.nd undef (.nd undef (.nd undef .lf .lf) (.nd undef .lf .lf)) (.nd undef (.nd undef .lf .lf) .lf)) (.nd undef (.nd undef (.nd undef .lf .lf) (.nd undef .lf .lf)) (.nd undef (.nd undef .lf .lf) .lf))))
def i29 : ST := (.nd undef (.nd undef (.nd undef (.nd undef (.nd undef .lf .lf) (.nd undef .lf .lf)) (.nd undef (.nd undef .lf .lf) (.nd undef .lf .lf))) (.nd undef (.nd undef (.nd undef .lf .lf) (.nd undef .lf .lf)) (.nd undef (.nd undef .lf .lf) .lf))) (.nd undef (.nd undef (.nd undef (.nd undef .lf .lf) (.nd undef .lf .lf)) (.nd undef (.nd undef .lf .lf) (.nd undef .lf .lf))) (.nd undef (.nd undef (.nd undef .lf .lf) (.nd undef .lf .lf)) (.nd undef (.nd undef .lf .lf) .lf))))
def i34 : ST := (.nd undef (.nd undef (.nd undef (.nd undef (.nd undef (.nd undef .lf .lf) .lf) (.nd undef .lf .lf)) (.nd undef (.nd undef .lf .lf) (.nd undef .lf .lf))) (.nd undef (.nd undef (.nd undef (.nd undef .lf .lf) .lf) (.nd undef .lf .lf)) (.nd undef (.nd undef .lf .lf) (.nd undef .lf .lf)))) (.nd undef (.nd undef (.nd undef (.nd undef (.nd undef .lf .lf) .lf) (.nd undef .lf .lf)) (.nd undef (.nd undef .lf .lf) (.nd undef .lf .lf))) (.nd undef (.nd undef (.nd undef .lf .lf) (.nd undef .lf .lf)) (.nd undef (.nd undef .lf .lf) (.nd undef .lf .lf)))))
def i36 : ST := (.nd undef (.nd undef (.nd undef (.nd undef (.nd undef (.nd undef .lf .lf) .lf) (.nd undef .lf .lf)) (.nd undef (.nd undef (.nd undef .lf .lf) .lf) (.nd undef .lf .lf))) (.nd undef (.nd undef (.nd undef (.nd undef .lf .lf) .lf) (.nd undef .lf .lf)) (.nd undef (.nd undef .lf .lf) (.nd undef .lf .lf)))) (.nd undef (.nd undef (.nd undef (.nd undef (.nd undef .lf .lf) .lf) (.nd undef .lf .lf)) (.nd undef (.nd undef .lf .lf) (.nd undef .lf .lf))) (.nd undef (.nd undef (.nd undef (.nd undef .lf .lf) .lf) (.nd undef .lf .lf)) (.nd undef (.nd undef .lf .lf) (.nd undef .lf .lf)))))
def i38 : ST := (.nd undef (.nd undef (.nd undef (.nd undef (.nd undef (.nd undef .lf .lf) .lf) (.nd undef .lf .lf)) (.nd undef (.nd undef (.nd undef .lf .lf) .lf) (.nd undef .lf .lf))) (.nd undef (.nd undef (.nd undef (.nd undef .lf .lf) .lf) (.nd undef .lf .lf)) (.nd undef (.nd undef (.nd undef .lf .lf) .lf) (.nd undef .lf .lf)))) (.nd undef (.nd undef (.nd undef (.nd undef (.nd undef .lf .lf) .lf) (.nd undef .lf .lf)) (.nd undef (.nd undef (.nd undef .lf .lf) .lf) (.nd undef .lf .lf))) (.nd undef (.nd undef (.nd undef (.nd undef .lf .lf) .lf) (.nd undef .lf .lf)) (.nd undef (.nd undef .lf .lf) (.nd undef .lf .lf)))))
def i39 : ST := (.nd undef (.nd undef (.nd undef (.nd undef (.nd undef (.nd undef .lf .lf) .lf) (.nd undef .lf .lf)) (.nd undef (.nd undef (.nd undef .lf .lf) .lf) (.nd undef .lf .lf))) (.nd undef (.nd undef (.nd undef (.nd undef .lf .lf) .lf) (.nd undef .lf .lf)) (.nd undef (.nd undef (.nd undef .lf .lf) .lf) (.nd undef .lf .lf)))) (.nd undef (.nd undef (.nd undef (.nd undef (.nd undef .lf .lf) .lf) (.nd undef .lf .lf)) (.nd undef (.nd undef (.nd undef .lf .lf) .lf) (.nd undef .lf .lf))) (.nd undef (.nd undef (.nd undef (.nd undef .lf .lf) .lf) (.nd undef .lf .lf)) (.nd undef (.nd undef (.nd undef .lf .lf) .lf) (.nd undef .lf .lf)))))
def i40 : ST := (.nd undef (.nd undef (.nd undef (.nd undef (.nd undef (.nd undef .lf .lf) .lf) (.nd undef (.nd undef .lf .lf) .lf)) (.nd undef (.nd undef (.nd undef .lf .lf) .lf) (.nd undef .lf .lf))) (.nd undef (.nd undef (.nd undef (.nd undef .lf .lf) .lf) (.nd undef .lf .lf)) (.nd undef (.nd undef (.nd undef .lf .lf) .lf) (.nd undef .lf .lf)))) (.nd undef (.nd undef (.nd undef (.nd undef (.nd undef .lf .lf) .lf) (.nd undef .lf .lf)) (.nd undef (.nd undef (.nd undef .lf .lf) .lf) (.nd undef .lf .lf))) (.nd undef (.nd undef (.nd undef (.nd undef .lf .lf) .lf) (.nd undef .lf .lf)) (.nd undef (.nd undef (.nd undef .lf .lf) .lf) (.nd undef .lf .lf)))))
def i41 : ST := (.nd undef (.nd undef (.nd undef (.nd undef (.nd undef (.nd undef .lf .lf) .lf) (.nd undef (.nd undef .lf .lf) .lf)) (.nd undef (.nd undef (.nd undef .lf .lf) .lf) (.nd undef .lf .lf))) (.nd undef (.nd undef (.nd undef (.nd undef .lf .lf) .lf) (.nd undef .lf .lf)) (.nd undef (.nd undef (.nd undef .lf .lf) .lf) (.nd undef .lf .lf)))) (.nd undef (.nd undef (.nd undef (.nd undef (.nd undef .lf .lf) .lf) (.nd undef (.nd undef .lf .lf) .lf)) (.nd undef (.nd undef (.nd undef .lf .lf) .lf) (.nd undef .lf .lf))) (.nd undef (.nd undef (.nd undef (.nd undef .lf .lf) .lf) (.nd undef .lf .lf)) (.nd undef (.nd undef (.nd undef .lf .lf) .lf) (.nd undef .lf .lf)))))
def i44 : ST := (.nd undef (.nd undef (.nd undef (.nd undef (.nd undef (.nd undef .lf .lf) .lf) (.nd undef (.nd undef .lf .lf) .lf)) (.nd undef (.nd undef (.nd undef .lf .lf) .lf) (.nd undef (.nd undef .lf .lf) .lf))) (.nd undef (.nd undef (.nd undef (.nd undef .lf .lf) .lf) (.nd undef (.nd undef .lf .lf) .lf)) (.nd undef (.nd undef (.nd undef .lf .lf) .lf) (.nd undef .lf .lf)))) (.nd undef (.nd undef (.nd undef (.nd undef (.nd undef .lf .lf) .lf) (.nd undef (.nd undef .lf .lf) .lf)) (.nd undef (.nd undef (.nd undef .lf .lf) .lf) (.nd undef .lf .lf))) (.nd undef (.nd undef (.nd undef (.nd undef .lf .lf) .lf) (.nd undef (.nd undef .lf .lf) .lf)) (.nd undef (.nd undef (.nd undef .lf .lf) .lf) (.nd undef .lf .lf)))))
def i45 : ST := (.nd undef (.nd undef (.nd undef (.nd undef (.nd undef (.nd undef .lf .lf) .lf) (.nd undef (.nd undef .lf .lf) .lf)) (.nd undef (.nd undef (.nd undef .lf .lf) .lf) (.nd undef (.nd undef .lf .lf) .lf))) (.nd undef (.nd undef (.nd undef (.nd undef .lf .lf) .lf) (.nd undef (.nd undef .lf .lf) .lf)) (.nd undef (.nd undef (.nd undef .lf .lf) .lf) (.nd undef .lf .lf)))) (.nd undef (.nd undef (.nd undef (.nd undef (.nd undef .lf .lf) .lf) (.nd undef (.nd undef .lf .lf) .lf)) (.nd undef (.nd undef (.nd undef .lf .lf) .lf) (.nd undef (.nd undef .lf .lf) .lf))) (.nd undef (.nd undef (.nd undef (.nd undef .lf .lf) .lf) (.nd undef (.nd undef .lf .lf) .lf)) (.nd undef (.nd undef (.nd undef .lf .lf) .lf) (.nd undef .lf .lf)))))
def i58 : ST := (.nd undef (.nd undef (.nd undef (.nd undef (.nd undef (.nd undef .lf .lf) (.nd undef .lf .lf)) (.nd undef (.nd undef .lf .lf) (.nd undef .lf .lf))) (.nd undef (.nd undef (.nd undef .lf .lf) (.nd undef .lf .lf)) (.nd undef (.nd undef .lf .lf) .lf))) (.nd undef (.nd undef (.nd undef (.nd undef .lf .lf) (.nd undef .lf .lf)) (.nd undef (.nd undef .lf .lf) (.nd undef .lf .lf))) (.nd undef (.nd undef (.nd undef .lf .lf) (.nd undef .lf .lf)) (.nd undef (.nd undef .lf .lf) .lf)))) (.nd undef (.nd undef (.nd undef (.nd undef (.nd undef .lf .lf) (.nd undef .lf .lf)) (.nd undef (.nd undef .lf .lf) (.nd undef .lf .lf))) (.nd undef (.nd undef (.nd undef .lf .lf) (.nd undef .lf .lf)) (.nd undef (.nd undef .lf .lf) .lf))) (.nd undef (.nd undef (.nd undef (.nd undef .lf .lf) (.nd undef .lf .lf)) (.nd undef (.nd undef .lf .lf) .lf)) (.nd undef (.nd undef (.nd undef .lf .lf) (.nd undef .lf .lf)) (.nd undef (.nd undef .lf .lf) .lf)))))
def i61 : ST := (.nd undef (.nd undef (.nd undef (.nd undef (.nd undef (.nd undef .lf .lf) (.nd undef .lf .lf)) (.nd undef (.nd undef .lf .lf) (.nd undef .lf .lf))) (.nd undef (.nd undef (.nd undef .lf .lf) (.nd undef .lf .lf)) (.nd undef (.nd undef .lf .lf) (.nd undef .lf .lf)))) (.nd undef (.nd undef (.nd undef (.nd undef .lf .lf) (.nd undef .lf .lf)) (.nd undef (.nd undef .lf .lf) (.nd undef .lf .lf))) (.nd undef (.nd undef (.nd undef .lf .lf) (.nd undef .lf .lf)) (.nd undef (.nd undef .lf .lf) .lf)))) (.nd undef (.nd undef (.nd undef (.nd undef (.nd undef .lf .lf) (.nd undef .lf .lf)) (.nd undef (.nd undef .lf .lf) (.nd undef .lf .lf))) (.nd undef (.nd undef (.nd undef .lf .lf) (.nd undef .lf .lf)) (.nd undef (.nd undef .lf .lf) (.nd undef .lf .lf)))) (.nd undef (.nd undef (.nd undef (.nd undef .lf .lf) (.nd undef .lf .lf)) (.nd undef (.nd undef .lf .lf) (.nd undef .lf .lf))) (.nd undef (.nd undef (.nd undef .lf .lf) (.nd undef .lf .lf)) (.nd undef (.nd undef .lf .lf) .lf)))))
def i63 : ST := (.nd undef (.nd undef (.nd undef (.nd undef (.nd undef (.nd undef .lf .lf) (.nd undef .lf .lf)) (.nd undef (.nd undef .lf .lf) (.nd undef .lf .lf))) (.nd undef (.nd undef (.nd undef .lf .lf) (.nd undef .lf .lf)) (.nd undef (.nd undef .lf .lf) (.nd undef .lf .lf)))) (.nd undef (.nd undef (.nd undef (.nd undef .lf .lf) (.nd undef .lf .lf)) (.nd undef (.nd undef .lf .lf) (.nd undef .lf .lf))) (.nd undef (.nd undef (.nd undef .lf .lf) (.nd undef .lf .lf)) (.nd undef (.nd undef .lf .lf) (.nd undef .lf .lf))))) (.nd undef (.nd undef (.nd undef (.nd undef (.nd undef .lf .lf) (.nd undef .lf .lf)) (.nd undef (.nd undef .lf .lf) (.nd undef .lf .lf))) (.nd undef (.nd undef (.nd undef .lf .lf) (.nd undef .lf .lf)) (.nd undef (.nd undef .lf .lf) (.nd undef .lf .lf)))) (.nd undef (.nd undef (.nd undef (.nd undef .lf .lf) (.nd undef .lf .lf)) (.nd undef (.nd undef .lf .lf) (.nd undef .lf .lf))) (.nd undef (.nd undef (.nd undef .lf .lf) (.nd undef .lf .lf)) (.nd undef (.nd undef .lf .lf) (.nd undef .lf .lf))))))
def i66 : ST := (.nd undef (.nd undef (.nd undef (.nd undef (.nd undef (.nd undef (.nd undef .lf .lf) .lf) (.nd undef .lf .lf)) (.nd undef (.nd undef .lf .lf) (.nd undef .lf .lf))) (.nd undef (.nd undef (.nd undef .lf .lf) (.nd undef .lf .lf)) (.nd undef (.nd undef .lf .lf) (.nd undef .lf .lf)))) (.nd undef (.nd undef (.nd undef (.nd undef (.nd undef .lf .lf) .lf) (.nd undef .lf .lf)) (.nd undef (.nd undef .lf .lf) (.nd undef .lf .lf))) (.nd undef (.nd undef (.nd undef .lf .lf) (.nd undef .lf .lf)) (.nd undef (.nd undef .lf .lf) (.nd undef .lf .lf))))) (.nd undef (.nd undef (.nd undef (.nd undef (.nd undef (.nd undef .lf .lf) .lf) (.nd undef .lf .lf)) (.nd undef (.nd undef .lf .lf) (.nd undef .lf .lf))) (.nd undef (.nd undef (.nd undef .lf .lf) (.nd undef .lf .lf)) (.nd undef (.nd undef .lf .lf) (.nd undef .lf .lf)))) (.nd undef (.nd undef (.nd undef (.nd undef .lf .lf) (.nd undef .lf .lf)) (.nd undef (.nd undef .lf .lf) (.nd undef .lf .lf))) (.nd undef (.nd undef (.nd undef .lf .lf) (.nd undef .lf .lf)) (.nd undef (.nd undef .lf .lf) (.nd undef .lf .lf))))))
def i93 : ST := (.nd undef (.nd undef (.nd undef (.nd undef (.nd undef (.nd undef (.nd undef .lf .lf) .lf) (.nd undef (.nd undef .lf .lf) .lf)) (.nd undef (.nd undef (.nd undef .lf .lf) .lf) (.nd undef (.nd undef .lf .lf) .lf))) (.nd undef (.nd undef (.nd undef (.nd undef .lf .lf) .lf) (.nd undef (.nd undef .lf .lf) .lf)) (.nd undef (.nd undef (.nd undef .lf .lf) .lf) (.nd undef (.nd undef .lf .lf) .lf)))) (.nd undef (.nd undef (.nd undef (.nd undef (.nd undef .lf .lf) .lf) (.nd undef (.nd undef .lf .lf) .lf)) (.nd undef (.nd undef (.nd undef .lf .lf) .lf) (.nd undef (.nd undef .lf .lf) .lf))) (.nd undef (.nd undef (.nd undef (.nd undef .lf .lf) .lf) (.nd undef (.nd undef .lf .lf) .lf)) (.nd undef (.nd undef (.nd undef .lf .lf) .lf) (.nd undef .lf .lf))))) (.nd undef (.nd undef (.nd undef (.nd undef (.nd undef (.nd undef .lf .lf) .lf) (.nd undef (.nd undef .lf .lf) .lf)) (.nd undef (.nd undef (.nd undef .lf .lf) .lf) (.nd undef (.nd undef .lf .lf) .lf))) (.nd undef (.nd undef (.nd undef (.nd undef .lf .lf) .lf) (.nd undef (.nd undef .lf .lf) .lf)) (.nd undef (.nd undef (.nd undef .lf .lf) .lf) (.nd undef (.nd undef .lf .lf) .lf)))) (.nd undef (.nd undef (.nd undef (.nd undef (.nd undef .lf .lf) .lf) (.nd undef (.nd undef .lf .lf) .lf)) (.nd undef (.nd undef (.nd undef .lf .lf) .lf) (.nd undef (.nd undef .lf .lf) .lf))) (.nd undef (.nd undef (.nd undef (.nd undef .lf .lf) .lf) (.nd undef (.nd undef .lf .lf) .lf)) (.nd undef (.nd undef (.nd undef .lf .lf) .lf) (.nd undef .lf .lf))))))
def i132 : ST := (.nd undef (.nd undef (.nd undef (.nd undef (.nd undef (.nd undef (.nd undef (.nd undef .lf .lf) .lf) (.nd undef .lf .lf)) (.nd undef (.nd undef .lf .lf) (.nd undef .lf .lf))) (.nd undef (.nd undef (.nd undef .lf .lf) (.nd undef .lf .lf)) (.nd undef (.nd undef .lf .lf) (.nd undef .lf .lf)))) (.nd undef (.nd undef (.nd undef (.nd undef (.nd undef .lf .lf) .lf) (.nd undef .lf .lf)) (.nd undef (.nd undef .lf .lf) (.nd undef .lf .lf))) (.nd undef (.nd undef (.nd undef .lf .lf) (.nd undef .lf .lf)) (.nd undef (.nd undef .lf .lf) (.nd undef .lf .lf))))) (.nd undef (.nd undef (.nd undef (.nd undef (.nd undef (.nd undef .lf .lf) .lf) (.nd undef .lf .lf)) (.nd undef (.nd undef .lf .lf) (.nd undef .lf .lf))) (.nd undef (.nd undef (.nd undef .lf .lf) (.nd undef .lf .lf)) (.nd undef (.nd undef .lf .lf) (.nd undef .lf .lf)))) (.nd undef (.nd undef (.nd undef (.nd undef .lf .lf) (.nd undef .lf .lf)) (.nd undef (.nd undef .lf .lf) (.nd undef .lf .lf))) (.nd undef (.nd undef (.nd undef .lf .lf) (.nd undef .lf .lf)) (.nd undef (.nd undef .lf .lf) (.nd undef .lf .lf)))))) (.nd undef (.nd undef (.nd undef (.nd undef (.nd undef (.nd undef (.nd undef .lf .lf) .lf) (.nd undef .lf .lf)) (.nd undef (.nd undef .lf .lf) (.nd undef .lf .lf))) (.nd undef (.nd undef (.nd undef .lf .lf) (.nd undef .lf .lf)) (.nd undef (.nd undef .lf .lf) (.nd undef .lf .lf)))) (.nd undef (.nd undef (.nd undef (.nd undef .lf .lf) (.nd undef .lf .lf)) (.nd undef (.nd undef .lf .lf) (.nd undef .lf .lf))) (.nd undef (.nd undef (.nd undef .lf .lf) (.nd undef .lf .lf)) (.nd undef (.nd undef .lf .lf) (.nd undef .lf .lf))))) (.nd undef (.nd undef (.nd undef (.nd undef (.nd undef (.nd undef .lf .lf) .lf) (.nd undef .lf .lf)) (.nd undef (.nd undef .lf .lf) (.nd undef .lf .lf))) (.nd undef (.nd undef (.nd undef .lf .lf) (.nd undef .lf .lf)) (.nd undef (.nd undef .lf .lf) (.nd undef .lf .lf)))) (.nd undef (.nd undef (.nd undef (.nd undef .lf .lf) (.nd undef .lf .lf)) (.nd undef (.nd undef .lf .lf) (.nd undef .lf .lf))) (.nd undef (.nd undef (.nd undef .lf .lf) (.nd undef .lf .lf)) (.nd undef (.nd undef .lf .lf) (.nd undef .lf .lf)))))))
def i214 : ST := (.nd undef (.nd undef (.nd undef (.nd undef (.nd undef (.nd undef (.nd undef (.nd undef .lf .lf) (.nd undef .lf .lf)) (.nd undef (.nd undef .lf .lf) .lf)) (.nd undef (.nd undef (.nd undef .lf .lf) (.nd undef .lf .lf)) (.nd undef (.nd undef .lf .lf) .lf))) (.nd undef (.nd undef (.nd undef (.nd undef .lf .lf) (.nd undef .lf .lf)) (.nd undef (.nd undef .lf .lf) .lf)) (.nd undef (.nd undef (.nd undef .lf .lf) .lf) (.nd undef (.nd undef .lf .lf) .lf)))) (.nd undef (.nd undef (.nd undef (.nd undef (.nd undef .lf .lf) (.nd undef .lf .lf)) (.nd undef (.nd undef .lf .lf) .lf)) (.nd undef (.nd undef (.nd undef .lf .lf) (.nd undef .lf .lf)) (.nd undef (.nd undef .lf .lf) .lf))) (.nd undef (.nd undef (.nd undef (.nd undef .lf .lf) (.nd undef .lf .lf)) (.nd undef (.nd undef .lf .lf) .lf)) (.nd undef (.nd undef (.nd undef .lf .lf) .lf) (.nd undef (.nd undef .lf .lf) .lf))))) (.nd undef (.nd undef (.nd undef (.nd undef (.nd undef (.nd undef .lf .lf) (.nd undef .lf .lf)) (.nd undef (.nd undef .lf .lf) .lf)) (.nd undef (.nd undef (.nd undef .lf .lf) (.nd undef .lf .lf)) (.nd undef (.nd undef .lf .lf) .lf))) (.nd undef (.nd undef (.nd undef (.nd undef .lf .lf) (.nd undef .lf .lf)) (.nd undef (.nd undef .lf .lf) .lf)) (.nd undef (.nd undef (.nd undef .lf .lf) .lf) (.nd undef (.nd undef .lf .lf) .lf)))) (.nd undef (.nd undef (.nd undef (.nd undef (.nd undef .lf .lf) (.nd undef .lf .lf)) (.nd undef (.nd undef .lf .lf) .lf)) (.nd undef (.nd undef (.nd undef .lf .lf) (.nd undef .lf .lf)) (.nd undef (.nd undef .lf .lf) .lf))) (.nd undef (.nd undef (.nd undef (.nd undef .lf .lf) (.nd undef .lf .lf)) (.nd undef (.nd undef .lf .lf) .lf)) (.nd undef (.nd undef (.nd undef .lf .lf) .lf) (.nd undef (.nd undef .lf .lf) .lf)))))) (.nd undef (.nd undef (.nd undef (.nd undef (.nd undef (.nd undef (.nd undef .lf .lf) (.nd undef .lf .lf)) (.nd undef (.nd undef .lf .lf) .lf)) (.nd undef (.nd undef (.nd undef .lf .lf) (.nd undef .lf .lf)) (.nd undef (.nd undef .lf .lf) .lf))) (.nd undef (.nd undef (.nd undef (.nd undef .lf .lf) (.nd undef .lf .lf)) (.nd undef (.nd undef .lf .lf) .lf)) (.nd undef (.nd undef (.nd undef .lf .lf) .lf) (.nd undef (.nd undef .lf .lf) .lf)))) (.nd undef (.nd undef (.nd undef (.nd undef (.nd undef .lf .lf) (.nd undef .lf .lf)) (.nd undef (.nd undef .lf .lf) .lf)) (.nd undef (.nd undef (.nd undef .lf .lf) (.nd undef .lf .lf)) (.nd undef (.nd undef .lf .lf) .lf))) (.nd undef (.nd undef (.nd undef (.nd undef .lf .lf) (.nd undef .lf .lf)) (.nd undef (.nd undef .lf .lf) .lf)) (.nd undef (.nd undef (.nd undef .lf .lf) .lf) (.nd undef (.nd undef .lf .lf) .lf))))) (.nd undef (.nd undef (.nd undef (.nd undef (.nd undef (.nd undef .lf .lf) (.nd undef .lf .lf)) (.nd undef (.nd undef .lf .lf) .lf)) (.nd undef (.nd undef (.nd undef .lf .lf) (.nd undef .lf .lf)) (.nd undef (.nd undef .lf .lf) .lf))) (.nd undef (.nd undef (.nd undef (.nd undef .lf .lf) (.nd undef .lf .lf)) (.nd undef (.nd undef .lf .lf) .lf)) (.nd undef (.nd undef (.nd undef .lf .lf) .lf) (.nd undef (.nd undef .lf .lf) .lf)))) (.nd undef (.nd undef (.nd undef (.nd undef (.nd undef .lf .lf) (.nd undef .lf .lf)) (.nd undef (.nd undef .lf .lf) .lf)) (.nd undef (.nd undef (.nd undef .lf .lf) .lf) (.nd undef (.nd undef .lf .lf) .lf))) (.nd undef (.nd undef (.nd undef (.nd undef .lf .lf) (.nd undef .lf .lf)) (.nd undef (.nd undef .lf .lf) .lf)) (.nd undef (.nd undef (.nd undef .lf .lf) .lf) (.nd undef (.nd undef .lf .lf) .lf)))))))
def a5 : AFunc := { params := [p0, p1, p2], init := i214, results := [.tmp p6], body := (.seq (.reg [⟨(some p6), none, .mov (.c (.bool false))⟩] []) (.kill [p6] (.seq (.seq (.reg [⟨(some p7), none, .mov (.c (.int .i64 0))⟩] []) (.block 0 (.loop (.seq (.seq (.reg [⟨(some p19), none, .mov (.t p7)⟩, ⟨(some p20), none, .bin .lss (.t p19) (.c (.int .i64 3))⟩] []) (.kill [p19] (.cond (.t p20) .skip (.exit 0)))) (.kill [p20] (.seq (.block 1 (.seq (.reg [⟨(some p24), none, .mov (.t p0)⟩, ⟨(some p25), none, .mov (.t p1)⟩, ⟨(some p26), none, .mov (.t p2)⟩, ⟨(some p27), none, .call (.c (.func (.func 25) #[] #[])) [(.t p24), (.t p25), (.t p26)]⟩, ⟨(some p23), none, .mov (.t p27)⟩, ⟨(some p28), none, .ext 0 (.t p23)⟩, ⟨(some p29), none, .ext 1 (.t p23)⟩, ⟨(some p30), none, .ext 2 (.t p23)⟩, ⟨(some p8), none, .mov (.t p28)⟩, ⟨(some p9), none, .mov (.t p29)⟩, ⟨(some p10), none, .mov (.t p30)⟩] []) (.kill [p23, p24, p25, p26, p27, p28, p29, p30] (.seq (.reg [⟨(some p32), none, .mov (.t p0)⟩, ⟨(some p33), none, .mov (.t p1)⟩, ⟨(some p34), none, .mov (.t p2)⟩, ⟨(some p35), none, .call (.c (.func (.func 26) #[] #[])) [(.t p32), (.t p33), (.t p34), (.c (.bool true))]⟩, ⟨(some p31), none, .mov (.t p35)⟩, ⟨(some p36), none, .ext 0 (.t p31)⟩, ⟨(some p37), none, .ext 1 (.t p31)⟩, ⟨(some p38), none, .ext 2 (.t p31)⟩, ⟨(some p11), none, .mov (.t p36)⟩, ⟨(some p12), none, .mov (.t p37)⟩, ⟨(some p13), none, .mov (.t p38)⟩] []) (.kill [p31, p32, p33, p34, p35, p36, p37, p38] (.seq (.reg [⟨(some p40), none, .mov (.t p0)⟩, ⟨(some p41), none, .mov (.t p1)⟩, ⟨(some p42), none, .mov (.t p2)⟩, ⟨(some p43), none, .call (.c (.func (.func 26) #[] #[])) [(.t p40), (.t p41), (.t p42), (.c (.bool false))]⟩, ⟨(some p39), none, .mov (.t p43)⟩, ⟨(some p44), none, .ext 0 (.t p39)⟩, ⟨(some p45), none, .ext 1 (.t p39)⟩, ⟨(some p46), none, .ext 2 (.t p39)⟩, ⟨(some p14), none, .mov (.t p44)⟩, ⟨(some p15), none, .mov (.t p45)⟩, ⟨(some p16), none, .mov (.t p46)⟩] []) (.kill [p39, p40, p41, p42, p43, p44, p45, p46] (.seq (.seq (.reg [⟨(some p47), none, .mov (.t p0)⟩, ⟨(some p48), none, .bin .lss (.t p47) (.c (.int .i64 1))⟩, ⟨(some p49), none, .mov (.t p48)⟩, ⟨(some p50), (some (p49, false)), .mov (.t p0)⟩, ⟨(some p51), (some (p49, false)), .bin .gtr (.t p50) (.c (.int .i64 1000))⟩, ⟨(some p52), none, .pick (.t p49) (.c (.bool true)) (.t p51)⟩, ⟨(some p53), none, .mov (.t p52)⟩, ⟨(some p54), (some (p53, false)), .mov (.t p1)⟩, ⟨(some p55), (some (p53, false)), .bin .lss (.t p54) (.c (.int .i64 1))⟩, ⟨(some p56), none, .pick (.t p53) (.c (.bool true)) (.t p55)⟩, ⟨(some p57), none, .mov (.t p56)⟩, ⟨(some p58), (some (p57, false)), .mov (.t p1)⟩, ⟨(some p59), (some (p57, false)), .bin .gtr (.t p58) (.c (.int .i64 1000))⟩, ⟨(some p60), none, .pick (.t p57) (.c (.bool true)) (.t p59)⟩, ⟨(some p61), none, .mov (.t p60)⟩, ⟨(some p62), (some (p61, false)), .mov (.t p2)⟩, ⟨(some p63), (some (p61, false)), .bin .lss (.t p62) (.c (.int .i64 0))⟩, ⟨(some p64), none, .pick (.t p61) (.c (.bool true)) (.t p63)⟩, ⟨(some p65), none, .mov (.t p64)⟩, ⟨(some p66), (some (p65, false)), .mov (.t p2)⟩, ⟨(some p67), (some (p65, false)), .mov (.t p0)⟩, ⟨(some p68), (some (p65, false)), .mov (.t p1)⟩, ⟨(some p69), (some (p65, false)), .max (.t p67) [(.t p68)]⟩, ⟨(some p70), (some (p65, false)), .bin .gtr (.t p66) (.t p69)⟩, ⟨(some p71), none, .pick (.t p65) (.c (.bool true)) (.t p70)⟩] []) (.kill [p47, p48, p49, p50, p51, p52, p53, p54, p55, p56, p57, p58, p59, p60, p61, p62, p63, p64, p65, p66, p67, p68, p69, p70] (.cond (.t p71) (.kill [p71] (.seq (.reg [⟨(some p72), none, .mov (.t p10)⟩, ⟨(some p73), none, .bin .neq (.t p72) (.c (.int .i64 1))⟩, ⟨(some p74), none, .mov (.t p73)⟩, ⟨(some p75), (some (p74, false)), .mov (.t p13)⟩, ⟨(some p76), (some (p74, false)), .bin .neq (.t p75) (.c (.int .i64 1))⟩, ⟨(some p77), none, .pick (.t p74) (.c (.bool true)) (.t p76)⟩, ⟨(some p78), none, .mov (.t p77)⟩, ⟨(some p79), (some (p78, false)), .mov (.t p16)⟩, ⟨(some p80), (some (p78, false)), .bin .neq (.t p79) (.c (.int .i64 1))⟩, ⟨(some p81), none, .pick (.t p78) (.c (.bool true)) (.t p80)⟩, ⟨(some p82), none, .mov (.t p81)⟩, ⟨(some p83), (some (p82, false)), .mov (.t p9)⟩, ⟨(some p84), none, .pick (.t p82) (.c (.bool true)) (.t p83)⟩, ⟨(some p85), none, .mov (.t p84)⟩, ⟨(some p86), (some (p85, false)), .mov (.t p12)⟩, ⟨(some p87), none, .pick (.t p85) (.c (.bool true)) (.t p86)⟩, ⟨(some p88), none, .mov (.t p87)⟩, ⟨(some p89), (some (p88, false)), .mov (.t p15)⟩, ⟨(some p90), none, .pick (.t p88) (.c (.bool true)) (.t p89)⟩, ⟨(some p91), none, .mov (.t p90)⟩, ⟨(some p92), (some (p91, false)), .mov (.t p8)⟩, ⟨(some p93), (some (p91, false)), .mov (.t p11)⟩, ⟨(some p94), (some (p91, false)), .len 1 (.t p93)⟩, ⟨(some p95), (some (p91, false)), .bin .add (.t p92) (.t p94)⟩, ⟨(some p96), (some (p91, false)), .mov (.t p14)⟩, ⟨(some p97), (some (p91, false)), .len 1 (.t p96)⟩, ⟨(some p98), (some (p91, false)), .bin .add (.t p95) (.t p97)⟩, ⟨(some p99), (some (p91, false)), .bin .neq (.t p98) (.c (.int .i64 0))⟩, ⟨(some p100), none, .pick (.t p91) (.c (.bool true)) (.t p99)⟩] []) (.kill [p8, p9, p10, p11, p12, p13, p14, p15, p16, p72, p73, p74, p75, p76, p77, p78, p79, p80, p81, p82, p83, p84, p85, p86, p87, p88, p89, p90, p91, p92, p93, p94, p95, p96, p97, p98, p99] (.cond (.t p100) (.kill [p100] (.seq (.reg [⟨(some p6), none, .mov (.c (.bool false))⟩] []) .ret)) .skip)))) (.kill [p71] (.seq (.reg [⟨(some p101), none, .mov (.t p0)⟩, ⟨(some p102), none, .mov (.t p1)⟩, ⟨(some p103), none, .mov (.t p2)⟩, ⟨(some p104), none, .call (.c (.func (.func 27) #[] #[])) [(.t p101), (.t p102), (.t p103)]⟩, ⟨(some p105), none, .un .not (.t p104)⟩] []) (.kill [p101, p102, p103, p104] (.cond (.t p105) (.kill [p105] (.seq (.reg [⟨(some p106), none, .mov (.t p10)⟩, ⟨(some p107), none, .bin .neq (.t p106) (.c (.int .i64 0))⟩, ⟨(some p108), none, .mov (.t p107)⟩, ⟨(some p109), (some (p108, false)), .mov (.t p13)⟩, ⟨(some p110), (some (p108, false)), .bin .neq (.t p109) (.c (.int .i64 0))⟩, ⟨(some p111), none, .pick (.t p108) (.c (.bool true)) (.t p110)⟩, ⟨(some p112), none, .mov (.t p111)⟩, ⟨(some p113), (some (p112, false)), .mov (.t p16)⟩, ⟨(some p114), (some (p112, false)), .bin .neq (.t p113) (.c (.int .i64 0))⟩, ⟨(some p115), none, .pick (.t p112) (.c (.bool true)) (.t p114)⟩, ⟨(some p116), none, .mov (.t p115)⟩, ⟨(some p117), (some (p116, false)), .mov (.t p9)⟩, ⟨(some p118), none, .pick (.t p116) (.c (.bool true)) (.t p117)⟩, ⟨(some p119), none, .mov (.t p118)⟩, ⟨(some p120), (some (p119, false)), .mov (.t p12)⟩, ⟨(some p121), none, .pick (.t p119) (.c (.bool true)) (.t p120)⟩, ⟨(some p122), none, .mov (.t p121)⟩, ⟨(some p123), (some (p122, false)), .mov (.t p15)⟩, ⟨(some p124), none, .pick (.t p122) (.c (.bool true)) (.t p123)⟩, ⟨(some p125), none, .mov (.t p124)⟩, ⟨(some p126), (some (p125, false)), .mov (.t p8)⟩, ⟨(some p127), (some (p125, false)), .mov (.t p11)⟩, ⟨(some p128), (some (p125, false)), .len 1 (.t p127)⟩, ⟨(some p129), (some (p125, false)), .bin .add (.t p126) (.t p128)⟩, ⟨(some p130), (some (p125, false)), .mov (.t p14)⟩, ⟨(some p131), (some (p125, false)), .len 1 (.t p130)⟩, ⟨(some p132), (some (p125, false)), .bin .add (.t p129) (.t p131)⟩, ⟨(some p133), (some (p125, false)), .bin .neq (.t p132) (.c (.int .i64 0))⟩, ⟨(some p134), none, .pick (.t p125) (.c (.bool true)) (.t p133)⟩] []) (.kill [p8, p9, p10, p11, p12, p13, p14, p15, p16, p106, p107, p108, p109, p110, p111, p112, p113, p114, p115, p116, p117, p118, p119, p120, p121, p122, p123, p124, p125, p126, p127, p128, p129, p130, p131, p132, p133] (.cond (.t p134) (.kill [p134] (.seq (.reg [⟨(some p6), none, .mov (.c (.bool false))⟩] []) .ret)) .skip)))) (.kill [p105] (.seq (.reg [⟨(some p135), none, .mov (.t p0)⟩, ⟨(some p136), none, .mov (.t p1)⟩, ⟨(some p137), none, .mov (.t p2)⟩, ⟨(some p138), none, .call (.c (.func (.func 28) #[] #[])) [(.t p135), (.t p136), (.t p137), (.c (.bool true))]⟩, ⟨(some p139), none, .mov (.t p0)⟩, ⟨(some p140), none, .mov (.t p1)⟩, ⟨(some p141), none, .mov (.t p2)⟩, ⟨(some p142), none, .call (.c (.func (.func 28) #[] #[])) [(.t p139), (.t p140), (.t p141), (.c (.bool false))]⟩, ⟨(some p17), none, .mov (.t p138)⟩, ⟨(some p18), none, .mov (.t p142)⟩] []) (.kill [p135, p136, p137, p138, p139, p140, p141, p142] (.seq (.reg [⟨(some p143), none, .mov (.t p10)⟩, ⟨(some p144), none, .bin .neq (.t p143) (.c (.int .i64 0))⟩, ⟨(some p145), none, .mov (.t p144)⟩, ⟨(some p146), (some (p145, false)), .mov (.t p13)⟩, ⟨(some p147), (some (p145, false)), .bin .neq (.t p146) (.c (.int .i64 0))⟩, ⟨(some p148), none, .pick (.t p145) (.c (.bool true)) (.t p147)⟩, ⟨(some p149), none, .mov (.t p148)⟩, ⟨(some p150), (some (p149, false)), .mov (.t p16)⟩, ⟨(some p151), (some (p149, false)), .bin .neq (.t p150) (.c (.int .i64 0))⟩, ⟨(some p152), none, .pick (.t p149) (.c (.bool true)) (.t p151)⟩, ⟨(some p153), none, .mov (.t p152)⟩, ⟨(some p154), (some (p153, false)), .mov (.t p9)⟩, ⟨(some p155), (some (p153, false)), .un .not (.t p154)⟩, ⟨(some p156), none, .pick (.t p153) (.c (.bool true)) (.t p155)⟩, ⟨(some p157), none, .mov (.t p156)⟩, ⟨(some p158), (some (p157, false)), .mov (.t p12)⟩, ⟨(some p159), (some (p157, false)), .un .not (.t p158)⟩, ⟨(some p160), none, .pick (.t p157) (.c (.bool true)) (.t p159)⟩, ⟨(some p161), none, .mov (.t p160)⟩, ⟨(some p162), (some (p161, false)), .mov (.t p15)⟩, ⟨(some p163), (some (p161, false)), .un .not (.t p162)⟩, ⟨(some p164), none, .pick (.t p161) (.c (.bool true)) (.t p163)⟩, ⟨(some p165), none, .mov (.t p164)⟩, ⟨(some p166), (some (p165, false)), .mov (.t p11)⟩, ⟨(some p167), (some (p165, false)), .mov (.t p17)⟩, ⟨(some p168), (some (p165, false)), .call (.c (.func (.func 29) #[] #[])) [(.t p166), (.t p167)]⟩, ⟨(some p169), (some (p165, false)), .un .not (.t p168)⟩, ⟨(some p170), none, .pick (.t p165) (.c (.bool true)) (.t p169)⟩, ⟨(some p171), none, .mov (.t p170)⟩, ⟨(some p172), (some (p171, false)), .mov (.t p14)⟩, ⟨(some p173), (some (p171, false)), .mov (.t p18)⟩, ⟨(some p174), (some (p171, false)), .call (.c (.func (.func 29) #[] #[])) [(.t p172), (.t p173)]⟩, ⟨(some p175), (some (p171, false)), .un .not (.t p174)⟩, ⟨(some p176), none, .pick (.t p171) (.c (.bool true)) (.t p175)⟩, ⟨(some p177), none, .mov (.t p176)⟩, ⟨(some p178), (some (p177, false)), .mov (.t p8)⟩, ⟨(some p179), (some (p177, false)), .mov (.t p17)⟩, ⟨(some p180), (some (p177, false)), .len 1 (.t p179)⟩, ⟨(some p181), (some (p177, false)), .mov (.t p18)⟩, ⟨(some p182), (some (p177, false)), .len 1 (.t p181)⟩, ⟨(some p183), (some (p177, false)), .min (.t p180) [(.t p182)]⟩, ⟨(some p184), (some (p177, false)), .bin .neq (.t p178) (.t p183)⟩, ⟨(some p185), none, .pick (.t p177) (.c (.bool true)) (.t p184)⟩] []) (.kill [p8, p9, p10, p11, p12, p13, p14, p15, p16, p17, p18, p143, p144, p145, p146, p147, p148, p149, p150, p151, p152, p153, p154, p155, p156, p157, p158, p159, p160, p161, p162, p163, p164, p165, p166, p167, p168, p169, p170, p171, p172, p173, p174, p175, p176, p177, p178, p179, p180, p181, p182, p183, p184] (.cond (.t p185) (.kill [p185] (.seq (.reg [⟨(some p6), none, .mov (.c (.bool false))⟩] []) .ret)) .skip))))))))))))) (.kill [p71, p100, p105, p134, p185] (.seq (.reg [⟨(some p186), none, .mov (.t p0)⟩, ⟨(some p187), none, .cvt .u64 (.t p186)⟩, ⟨(some p188), none, .bin .rem (.t p187) (.c (.int .u64 1000))⟩, ⟨(some p189), none, .cvt .i64 (.t p188)⟩, ⟨(some p190), none, .bin .add (.c (.int .i64 1)) (.t p189)⟩, ⟨(some p0), none, .mov (.t p190)⟩] []) (.kill [p186, p187, p188, p189, p190] (.seq (.reg [⟨(some p191), none, .mov (.t p1)⟩, ⟨(some p192), none, .cvt .u64 (.t p191)⟩, ⟨(some p193), none, .bin .rem (.t p192) (.c (.int .u64 1000))⟩, ⟨(some p194), none, .cvt .i64 (.t p193)⟩, ⟨(some p195), none, .bin .add (.c (.int .i64 1)) (.t p194)⟩, ⟨(some p1), none, .mov (.t p195)⟩] []) (.kill [p191, p192, p193, p194, p195] (.seq (.seq (.reg [⟨(some p196), none, .mov (.t p7)⟩, ⟨(some p197), none, .bin .eql (.t p196) (.c (.int .i64 1))⟩] []) (.kill [p196] (.cond (.t p197) (.kill [p197] (.seq (.reg [⟨(some p198), none, .mov (.t p0)⟩, ⟨(some p199), none, .bin .rem (.t p198) (.c (.int .i64 30))⟩, ⟨(some p200), none, .bin .add (.c (.int .i64 1)) (.t p199)⟩, ⟨(some p0), none, .mov (.t p200)⟩] []) (.kill [p198, p199, p200] (.reg [⟨(some p201), none, .mov (.t p1)⟩, ⟨(some p202), none, .bin .rem (.t p201) (.c (.int .i64 30))⟩, ⟨(some p203), none, .bin .add (.c (.int .i64 1)) (.t p202)⟩, ⟨(some p1), none, .mov (.t p203)⟩] [])))) .skip))) (.kill [p197, p201, p202, p203] (.reg [⟨(some p204), none, .mov (.t p2)⟩, ⟨(some p205), none, .cvt .u64 (.t p204)⟩, ⟨(some p206), none, .mov (.t p0)⟩, ⟨(some p207), none, .mov (.t p1)⟩, ⟨(some p208), none, .max (.t p206) [(.t p207)]⟩, ⟨(some p209), none, .bin .add (.t p208) (.c (.int .i64 1))⟩, ⟨(some p210), none, .cvt .u64 (.t p209)⟩, ⟨(some p211), none, .bin .rem (.t p205) (.t p210)⟩, ⟨(some p212), none, .cvt .i64 (.t p211)⟩, ⟨(some p2), none, .mov (.t p212)⟩] [])))))))))))))))) (.kill [p204, p205, p206, p207, p208, p209, p210, p211, p212] (.reg [⟨(some p21), none, .mov (.t p7)⟩, ⟨(some p22), none, .bin .add (.t p21) (.c (.int .i64 1))⟩, ⟨(some p7), none, .mov (.t p22)⟩] [])))))))) (.kill [p0, p1, p2, p7, p20] (.seq (.reg [⟨(some p213), none, .call (.c (.func (.func 20) #[] #[])) []⟩, ⟨(some p6), none, .mov (.t p213)⟩] []) .ret))))) }
def a18 : AFunc := { params := [p0, p1, p2], init := i38, results := [.tmp p6, .tmp p7], body := (.seq (.reg [⟨(some p6), none, .mov (.c (.slice none 0 0))⟩, ⟨(some p7), none, .mov (.c (.int .i64 0))⟩] []) (.kill [p6, p7] (.seq (.reg [⟨(some p13), none, .mov (.t p0)⟩, ⟨(some p14), none, .mov (.t p2)⟩, ⟨(some p15), none, .mov (.t p1)⟩, ⟨(some p16), none, .bslice 1 1 [(.slice none 0 0)] [(0, 1, (.t p15))]⟩, ⟨(some p17), none, .call (.c (.func (.func 46) #[] #[])) [(.t p13), (.t p14), (.t p16)]⟩, ⟨(some p12), none, .mov (.t p17)⟩, ⟨(some p18), none, .ext 0 (.t p12)⟩, ⟨(some p19), none, .ext 1 (.t p12)⟩, ⟨(some p8), none, .mov (.t p18)⟩, ⟨(some p9), none, .mov (.t p19)⟩] []) (.kill [p0, p2, p12, p13, p14, p15, p16, p17, p18, p19] (.seq (.seq (.reg [⟨(some p20), none, .mov (.t p9)⟩, ⟨(some p21), none, .bin .neq (.t p20) (.c (.int .i64 0))⟩] []) (.kill [p20] (.cond (.t p21) (.kill [p21] (.seq (.reg [⟨(some p22), none, .mov (.t p9)⟩, ⟨(some p6), none, .mov (.c (.slice none 0 0))⟩, ⟨(some p7), none, .mov (.t p22)⟩] []) .ret)) .skip))) (.kill [p21] (.seq (.reg [⟨(some p10), none, .zero [(.slice none 0 0)]⟩] []) (.seq (.seq (.reg [⟨(some p23), none, .mov (.t p8)⟩, ⟨(some p24), none, .mov (.t p1)⟩, ⟨(some p25), none, .call (.c (.func (.func 48) #[] #[])) [(.t p24)]⟩, ⟨(some p26), none, .call (.c (.func (.func 47) #[] #[])) [(.t p23), (.t p25)]⟩] []) (.kill [p1, p8, p23, p24, p25] (.block 0 (.rangeF (.t p26) [p27, p28] (.reg [⟨(some p11), none, .zero [(.int .i64 0), (.int .i64 0)]⟩, ⟨none, none, .st 2 (.t p11) (.t p27)⟩] []) (.block 1 (.reg [⟨(some p29), none, .ld none (.t p10)⟩, ⟨(some p30), none, .fad 0 (.t p11)⟩, ⟨(some p31), none, .ld none (.t p30)⟩, ⟨(some p32), none, .fad 1 (.t p11)⟩, ⟨(some p33), none, .ld none (.t p32)⟩, ⟨(some p34), none, .build [(.int .i64 0), (.int .i64 0)] [(0, 1, (.t p31)), (1, 1, (.t p33))]⟩, ⟨(some p35), none, .bslice 1 2 [(.int .i64 0), (.int .i64 0)] [(0, 2, (.t p34))]⟩, ⟨(some p36), none, .app 2 (.t p29) (.t p35)⟩, ⟨none, none, .st 1 (.t p10) (.t p36)⟩] [])))))) (.seq (.reg [⟨(some p37), none, .ld none (.t p10)⟩, ⟨(some p6), none, .mov (.t p37)⟩, ⟨(some p7), none, .mov (.c (.int .i64 0))⟩] []) .ret))))))))) }
def a20 : AFunc := { params := [], init := i132, results := [.tmp p0], body := (.seq (.reg [⟨(some p0), none, .mov (.c (.bool false))⟩] []) (.kill [p0] (.seq (.reg [⟨(some p18), none, .bslice 2 1 [(.int .i64 0)] [(0, 1, (.c (.int .i64 3))), (1, 1, (.c (.int .i64 5)))]⟩, ⟨(some p19), none, .call (.c (.func (.func 31) #[] #[])) [(.t p18), (.c (.int .i64 4))]⟩, ⟨(some p17), none, .mov (.t p19)⟩, ⟨(some p20), none, .ext 0 (.t p17)⟩, ⟨(some p21), none, .ext 1 (.t p17)⟩, ⟨(some p22), none, .ext 2 (.t p17)⟩, ⟨(some p1), none, .mov (.t p20)⟩, ⟨(some p2), none, .mov (.t p21)⟩, ⟨(some p3), none, .mov (.t p22)⟩] []) (.kill [p17, p18, p19, p20, p21, p22] (.seq (.reg [⟨(some p24), none, .bslice 3 1 [(.int .i64 0)] [(0, 1, (.c (.int .i64 8))), (1, 1, (.c (.int .i64 5))), (2, 1, (.c (.int .i64 3)))]⟩, ⟨(some p25), none, .bslice 3 1 [(.int .i64 0)] [(0, 1, (.c (.int .i64 8))), (1, 1, (.c (.int .i64 0))), (2, 1, (.c (.int .i64 0)))]⟩, ⟨(some p26), none, .bslice 3 1 [(.int .i64 0)] [(0, 1, (.c (.int .i64 4))), (1, 1, (.c (.int .i64 4))), (2, 1, (.c (.int .i64 0)))]⟩, ⟨(some p27), none, .call (.c (.func (.func 22) #[] #[])) [(.t p24), (.t p25), (.t p26), (.c (.bool true))]⟩, ⟨(some p23), none, .mov (.t p27)⟩, ⟨(some p28), none, .ext 0 (.t p23)⟩, ⟨(some p29), none, .ext 1 (.t p23)⟩, ⟨(some p30), none, .ext 2 (.t p23)⟩, ⟨(some p4), none, .mov (.t p28)⟩, ⟨(some p5), none, .mov (.t p29)⟩, ⟨(some p6), none, .mov (.t p30)⟩] []) (.kill [p23, p24, p25, p26, p27, p28, p29, p30] (.seq (.reg [⟨(some p32), none, .bslice 2 1 [(.int .i64 0)] [(0, 1, (.c (.int .i64 4))), (1, 1, (.c (.int .i64 6)))]⟩, ⟨(some p33), none, .call (.c (.func (.func 30) #[] #[])) [(.t p32)]⟩, ⟨(some p31), none, .mov (.t p33)⟩, ⟨(some p34), none, .ext 0 (.t p31)⟩, ⟨(some p35), none, .ext 1 (.t p31)⟩, ⟨(some p7), none, .mov (.t p34)⟩, ⟨(some p8), none, .mov (.t p35)⟩] []) (.kill [p31, p32, p33, p34, p35] (.seq (.reg [⟨(some p37), none, .call (.c (.func (.func 25) #[] #[])) [(.c (.int .i64 3)), (.c (.int .i64 5)), (.c (.int .i64 4))]⟩, ⟨(some p36), none, .mov (.t p37)⟩, ⟨(some p38), none, .ext 0 (.t p36)⟩, ⟨(some p39), none, .ext 1 (.t p36)⟩, ⟨(some p40), none, .ext 2 (.t p36)⟩, ⟨(some p9), none, .mov (.t p38)⟩, ⟨(some p10), none, .mov (.t p39)⟩, ⟨(some p11), none, .mov (.t p40)⟩] []) (.kill [p36, p37, p38, p39, p40] (.seq (.reg [⟨(some p42), none, .call (.c (.func (.func 26) #[] #[])) [(.c (.int .i64 3)), (.c (.int .i64 5)), (.c (.int .i64 3)), (.c (.bool true))]⟩, ⟨(some p41), none, .mov (.t p42)⟩, ⟨(some p43), none, .ext 0 (.t p41)⟩, ⟨(some p44), none, .ext 1 (.t p41)⟩, ⟨(some p45), none, .ext 2 (.t p41)⟩, ⟨(some p12), none, .mov (.t p43)⟩, ⟨(some p13), none, .mov (.t p44)⟩, ⟨(some p14), none, .mov (.t p45)⟩] []) (.kill [p41, p42, p43, p44, p45] (.seq (.reg [⟨(some p47), none, .bslice 1 1 [(.int .i64 0)] [(0, 1, (.c (.int .i64 2)))]⟩, ⟨(some p48), none, .bslice 1 1 [(.int .i64 0)] [(0, 1, (.c (.int .i64 0)))]⟩, ⟨(some p49), none, .call (.c (.func (.func 18) #[] #[])) [(.t p47), (.t p48), (.c (.bool false))]⟩, ⟨(some p46), none, .mov (.t p49)⟩, ⟨(some p50), none, .ext 0 (.t p46)⟩, ⟨(some p51), none, .ext 1 (.t p46)⟩, ⟨(some p15), none, .mov (.t p50)⟩, ⟨(some p16), none, .mov (.t p51)⟩] []) (.kill [p46, p47, p48, p49, p50, p51] (.seq (.reg [⟨(some p52), none, .mov (.t p3)⟩, ⟨(some p53), none, .bin .eql (.t p52) (.c (.int .i64 0))⟩, ⟨(some p54), none, .mov (.t p53)⟩, ⟨(some p55), (some (p54, true)), .mov (.t p2)⟩, ⟨(some p56), none, .pick (.t p54) (.t p55) (.c (.bool false))⟩, ⟨(some p57), none, .mov (.t p56)⟩, ⟨(some p58), (some (p57, true)), .mov (.t p1)⟩, ⟨(some p59), (some (p57, true)), .bin .eql (.t p58) (.c (.int .i64 6))⟩, ⟨(some p60), none, .pick (.t p57) (.t p59) (.c (.bool false))⟩, ⟨(some p61), none, .mov (.t p60)⟩, ⟨(some p62), (some (p61, true)), .mov (.t p6)⟩, ⟨(some p63), (some (p61, true)), .bin .eql (.t p62) (.c (.int .i64 0))⟩, ⟨(some p64), none, .pick (.t p61) (.t p63) (.c (.bool false))⟩, ⟨(some p65), none, .mov (.t p64)⟩, ⟨(some p66), (some (p65, true)), .mov (.t p5)⟩, ⟨(some p67), none, .pick (.t p65) (.t p66) (.c (.bool false))⟩, ⟨(some p68), none, .mov (.t p67)⟩, ⟨(some p69), (some (p68, true)), .mov (.t p4)⟩, ⟨(some p70), (some (p68, true)), .len 1 (.t p69)⟩, ⟨(some p71), (some (p68, true)), .bin .eql (.t p70) (.c (.int .i64 7))⟩, ⟨(some p72), none, .pick (.t p68) (.t p71) (.c (.bool false))⟩, ⟨(some p73), none, .mov (.t p72)⟩, ⟨(some p74), (some (p73, true)), .mov (.t p8)⟩, ⟨(some p75), (some (p73, true)), .bin .eql (.t p74) (.c (.int .i64 0))⟩, ⟨(some p76), none, .pick (.t p73) (.t p75) (.c (.bool false))⟩, ⟨(some p77), none, .mov (.t p76)⟩, ⟨(some p78), (some (p77, true)), .mov (.t p7)⟩, ⟨(some p79), (some (p77, true)), .bslice 4 1 [(.int .i64 0)] [(0, 1, (.c (.int .i64 0))), (1, 1, (.c (.int .i64 2))), (2, 1, (.c (.int .i64 4))), (3, 1, (.c (.int .i64 6)))]⟩, ⟨(some p80), (some (p77, true)), .call (.c (.func (.func 33) #[] #[])) [(.t p78), (.t p79)]⟩, ⟨(some p81), none, .pick (.t p77) (.t p80) (.c (.bool false))⟩, ⟨(some p82), none, .mov (.t p81)⟩, ⟨(some p83), (some (p82, true)), .mov (.t p11)⟩, ⟨(some p84), (some (p82, true)), .bin .eql (.t p83) (.c (.int .i64 0))⟩, ⟨(some p85), none, .pick (.t p82) (.t p84) (.c (.bool false))⟩, ⟨(some p86), none, .mov (.t p85)⟩, ⟨(some p87), (some (p86, true)), .mov (.t p10)⟩, ⟨(some p88), none, .pick (.t p86) (.t p87) (.c (.bool false))⟩, ⟨(some p89), none, .mov (.t p88)⟩, ⟨(some p90), (some (p89, true)), .mov (.t p9)⟩, ⟨(some p91), (some (p89, true)), .bin .eql (.t p90) (.c (.int .i64 6))⟩, ⟨(some p92), none, .pick (.t p89) (.t p91) (.c (.bool false))⟩, ⟨(some p93), none, .mov (.t p92)⟩, ⟨(some p94), (some (p93, true)), .mov (.t p14)⟩, ⟨(some p95), (some (p93, true)), .bin .eql (.t p94) (.c (.int .i64 0))⟩, ⟨(some p96), none, .pick (.t p93) (.t p95) (.c (.bool false))⟩, ⟨(some p97), none, .mov (.t p96)⟩, ⟨(some p98), (some (p97, true)), .mov (.t p13)⟩, ⟨(some p99), none, .pick (.t p97) (.t p98) (.c (.bool false))⟩, ⟨(some p100), none, .mov (.t p99)⟩, ⟨(some p101), (some (p100, true)), .mov (.t p12)⟩, ⟨(some p102), (some (p100, true)), .len 1 (.t p101)⟩, ⟨(some p103), (some (p100, true)), .bin .eql (.t p102) (.c (.int .i64 1))⟩, ⟨(some p104), none, .pick (.t p100) (.t p103) (.c (.bool false))⟩, ⟨(some p105), none, .mov (.t p104)⟩, ⟨(some p106), (some (p105, true)), .mov (.t p12)⟩, ⟨(some p107), (some (p105, true)), .ias 2 (.t p106) (.c (.int .i64 0))⟩, ⟨(some p108), (some (p105, true)), .ld (some 2) (.t p107)⟩, ⟨(some p109), (some (p105, true)), .build [(.int .i64 0), (.int .i64 0)] [(0, 1, (.c (.int .i64 (-1)))), (1, 1, (.c (.int .i64 0)))]⟩, ⟨(some p110), (some (p105, true)), .eqs (.cells [.int, .int]) false (.t p108) (.t p109)⟩, ⟨(some p111), none, .pick (.t p105) (.t p110) (.c (.bool false))⟩, ⟨(some p112), none, .mov (.t p111)⟩, ⟨(some p113), (some (p112, true)), .mov (.t p16)⟩, ⟨(some p114), (some (p112, true)), .bin .eql (.t p113) (.c (.int .i64 0))⟩, ⟨(some p115), none, .pick (.t p112) (.t p114) (.c (.bool false))⟩, ⟨(some p116), none, .mov (.t p115)⟩, ⟨(some p117), (some (p116, true)), .mov (.t p15)⟩, ⟨(some p118), (some (p116, true)), .len 1 (.t p117)⟩, ⟨(some p119), (some (p116, true)), .bin .eql (.t p118) (.c (.int .i64 1))⟩, ⟨(some p120), none, .pick (.t p116) (.t p119) (.c (.bool false))⟩, ⟨(some p121), none, .mov (.t p120)⟩, ⟨(some p122), (some (p121, true)), .mov (.t p15)⟩, ⟨(some p123), (some (p121, true)), .ias 2 (.t p122) (.c (.int .i64 0))⟩, ⟨(some p124), (some (p121, true)), .ld (some 2) (.t p123)⟩, ⟨(some p125), (some (p121, true)), .build [(.int .i64 0), (.int .i64 0)] [(0, 1, (.c (.int .i64 (-1)))), (1, 1, (.c (.int .i64 0)))]⟩, ⟨(some p126), (some (p121, true)), .eqs (.cells [.int, .int]) false (.t p124) (.t p125)⟩, ⟨(some p127), none, .pick (.t p121) (.t p126) (.c (.bool false))⟩, ⟨(some p128), none, .mov (.t p127)⟩, ⟨(some p129), (some (p128, true)), .call (.c (.func (.func 43) #[] #[])) [(.c (.slice none 0 0))]⟩, ⟨(some p130), (some (p128, true)), .bin .eql (.t p129) (.c (.int .i64 20))⟩, ⟨(some p131), none, .pick (.t p128) (.t p130) (.c (.bool false))⟩, ⟨(some p0), none, .mov (.t p131)⟩] []) .ret))))))))))))))) }
def a22 : AFunc := { params := [p0, p1, p2, p3], init := i40, results := [.tmp p8, .tmp p9, .tmp p10], body := (.seq (.reg [⟨(some p8), none, .mov (.c (.slice none 0 0))⟩, ⟨(some p9), none, .mov (.c (.bool false))⟩, ⟨(some p10), none, .mov (.c (.int .i64 0))⟩] []) (.kill [p8, p9, p10] (.seq (.reg [⟨(some p17), none, .mov (.t p0)⟩, ⟨(some p18), none, .mov (.t p3)⟩, ⟨(some p19), none, .mov (.t p1)⟩, ⟨(some p20), none, .mov (.t p2)⟩, ⟨(some p21), none, .bslice 2 1 [(.slice none 0 0)] [(0, 1, (.t p19)), (1, 1, (.t p20))]⟩, ⟨(some p22), none, .call (.c (.func (.func 46) #[] #[])) [(.t p17), (.t p18), (.t p21)]⟩, ⟨(some p16), none, .mov (.t p22)⟩, ⟨(some p23), none, .ext 0 (.t p16)⟩, ⟨(some p24), none, .ext 1 (.t p16)⟩, ⟨(some p11), none, .mov (.t p23)⟩, ⟨(some p12), none, .mov (.t p24)⟩] []) (.kill [p0, p3, p16, p17, p18, p19, p20, p21, p22, p23, p24] (.seq (.seq (.reg [⟨(some p25), none, .mov (.t p12)⟩, ⟨(some p26), none, .bin .neq (.t p25) (.c (.int .i64 0))⟩] []) (.kill [p25] (.cond (.t p26) (.kill [p26] (.seq (.reg [⟨(some p27), none, .mov (.t p12)⟩, ⟨(some p8), none, .mov (.c (.slice none 0 0))⟩, ⟨(some p9), none, .mov (.c (.bool false))⟩, ⟨(some p10), none, .mov (.t p27)⟩] []) .ret)) .skip))) (.kill [p26] (.seq (.reg [⟨(some p28), none, .mov (.t p2)⟩, ⟨(some p29), none, .call (.c (.func (.func 48) #[] #[])) [(.t p28)]⟩, ⟨(some p13), none, .zero [(.int .i64 0), (.int .i64 0), (.int .i64 0), (.int .i64 0)]⟩, ⟨none, none, .st 4 (.t p13) (.t p29)⟩] []) (.kill [p2, p28, p29] (.seq (.reg [⟨(some p31), none, .mov (.t p11)⟩, ⟨(some p32), none, .mov (.t p1)⟩, ⟨(some p33), none, .call (.c (.func (.func 48) #[] #[])) [(.t p32)]⟩, ⟨(some p34), none, .clos (.func 52) [] [(.t p13)]⟩, ⟨(some p35), none, .call (.c (.func (.func 51) #[] #[])) [(.t p31), (.t p33), (.t p34)]⟩, ⟨(some p30), none, .mov (.t p35)⟩, ⟨(some p36), none, .ext 0 (.t p30)⟩, ⟨(some p37), none, .ext 1 (.t p30)⟩, ⟨(some p14), none, .mov (.t p36)⟩, ⟨(some p15), none, .mov (.t p37)⟩] []) (.kill [p1, p11, p13, p30, p31, p32, p33, p34, p35, p36, p37] (.seq (.reg [⟨(some p38), none, .mov (.t p14)⟩, ⟨(some p39), none, .mov (.t p15)⟩, ⟨(some p8), none, .mov (.t p38)⟩, ⟨(some p9), none, .mov (.t p39)⟩, ⟨(some p10), none, .mov (.c (.int .i64 0))⟩] []) .ret))))))))))) }
def a25 : AFunc := { params := [p0, p1, p2], init := i34, results := [.tmp p6, .tmp p7, .tmp p8], body := (.seq (.reg [⟨(some p6), none, .mov (.c (.int .i64 0))⟩, ⟨(some p7), none, .mov (.c (.bool false))⟩, ⟨(some p8), none, .mov (.c (.int .i64 0))⟩] []) (.kill [p6, p7, p8] (.seq (.reg [⟨(some p12), none, .mov (.t p0)⟩, ⟨(some p13), none, .mov (.t p1)⟩, ⟨(some p14), none, .mov (.t p2)⟩, ⟨(some p15), none, .call (.c (.func (.func 53) #[] #[])) [(.t p12), (.t p13), (.t p14)]⟩, ⟨(some p11), none, .mov (.t p15)⟩, ⟨(some p16), none, .ext 0 (.t p11)⟩, ⟨(some p17), none, .ext 1 (.t p11)⟩, ⟨(some p9), none, .mov (.t p16)⟩, ⟨(some p10), none, .mov (.t p17)⟩] []) (.kill [p11, p12, p13, p14, p15, p16, p17] (.seq (.seq (.reg [⟨(some p18), none, .mov (.t p9)⟩, ⟨(some p19), none, .un .not (.t p18)⟩] []) (.kill [p9, p18] (.cond (.t p19) (.kill [p19] (.seq (.reg [⟨(some p20), none, .mov (.t p10)⟩, ⟨(some p6), none, .mov (.c (.int .i64 0))⟩, ⟨(some p7), none, .mov (.c (.bool false))⟩, ⟨(some p8), none, .mov (.t p20)⟩] []) .ret)) .skip))) (.kill [p19] (.seq (.reg [⟨(some p21), none, .mov (.t p0)⟩, ⟨(some p22), none, .mov (.t p1)⟩, ⟨(some p23), none, .call (.c (.func (.func 54) #[] #[])) [(.t p21), (.t p22), (.c (.bool true))]⟩, ⟨(some p24), none, .mov (.t p2)⟩, ⟨(some p25), none, .call (.c (.func (.func 55) #[] #[])) [(.t p23), (.t p24)]⟩, ⟨(some p26), none, .len 1 (.t p25)⟩, ⟨(some p27), none, .mov (.t p0)⟩, ⟨(some p28), none, .mov (.t p1)⟩, ⟨(some p29), none, .call (.c (.func (.func 54) #[] #[])) [(.t p27), (.t p28), (.c (.bool false))]⟩, ⟨(some p30), none, .mov (.t p2)⟩, ⟨(some p31), none, .call (.c (.func (.func 55) #[] #[])) [(.t p29), (.t p30)]⟩, ⟨(some p32), none, .len 1 (.t p31)⟩, ⟨(some p33), none, .min (.t p26) [(.t p32)]⟩, ⟨(some p6), none, .mov (.t p33)⟩, ⟨(some p7), none, .mov (.c (.bool true))⟩, ⟨(some p8), none, .mov (.c (.int .i64 0))⟩] []) .ret))))))) }
def a26 : AFunc := { params := [p0, p1, p2, p3], init := i29, results := [.tmp p8, .tmp p9, .tmp p10], body := (.seq (.reg [⟨(some p8), none, .mov (.c (.slice none 0 0))⟩, ⟨(some p9), none, .mov (.c (.bool false))⟩, ⟨(some p10), none, .mov (.c (.int .i64 0))⟩] []) (.kill [p8, p9, p10] (.seq (.reg [⟨(some p14), none, .mov (.t p0)⟩, ⟨(some p15), none, .mov (.t p1)⟩, ⟨(some p16), none, .mov (.t p2)⟩, ⟨(some p17), none, .call (.c (.func (.func 53) #[] #[])) [(.t p14), (.t p15), (.t p16)]⟩, ⟨(some p13), none, .mov (.t p17)⟩, ⟨(some p18), none, .ext 0 (.t p13)⟩, ⟨(some p19), none, .ext 1 (.t p13)⟩, ⟨(some p11), none, .mov (.t p18)⟩, ⟨(some p12), none, .mov (.t p19)⟩] []) (.kill [p13, p14, p15, p16, p17, p18, p19] (.seq (.seq (.reg [⟨(some p20), none, .mov (.t p11)⟩, ⟨(some p21), none, .un .not (.t p20)⟩] []) (.kill [p11, p20] (.cond (.t p21) (.kill [p21] (.seq (.reg [⟨(some p22), none, .mov (.t p12)⟩, ⟨(some p8), none, .mov (.c (.slice none 0 0))⟩, ⟨(some p9), none, .mov (.c (.bool false))⟩, ⟨(some p10), none, .mov (.t p22)⟩] []) .ret)) .skip))) (.kill [p21] (.seq (.reg [⟨(some p23), none, .mov (.t p0)⟩, ⟨(some p24), none, .mov (.t p1)⟩, ⟨(some p25), none, .mov (.t p3)⟩, ⟨(some p26), none, .call (.c (.func (.func 54) #[] #[])) [(.t p23), (.t p24), (.t p25)]⟩, ⟨(some p27), none, .mov (.t p2)⟩, ⟨(some p28), none, .call (.c (.func (.func 55) #[] #[])) [(.t p26), (.t p27)]⟩, ⟨(some p8), none, .mov (.t p28)⟩, ⟨(some p9), none, .mov (.c (.bool true))⟩, ⟨(some p10), none, .mov (.c (.int .i64 0))⟩] []) .ret))))))) }
def a27 : AFunc := { params := [p0, p1, p2], init := i13, results := [.tmp p6], body := (.seq (.reg [⟨(some p6), none, .mov (.c (.bool false))⟩] []) (.kill [p6] (.seq (.reg [⟨(some p7), none, .mov (.t p2)⟩, ⟨(some p8), none, .mov (.t p0)⟩, ⟨(some p9), none, .mov (.t p1)⟩, ⟨(some p10), none, .call (.c (.func (.func 56) #[] #[])) [(.t p8), (.t p9)]⟩, ⟨(some p11), none, .bin .rem (.t p7) (.t p10)⟩, ⟨(some p12), none, .bin .eql (.t p11) (.c (.int .i64 0))⟩, ⟨(some p6), none, .mov (.t p12)⟩] []) .ret))) }
def a28 : AFunc := { params := [p0, p1, p2, p3], init := i58, results := [.tmp p8], body := (.seq (.reg [⟨(some p8), none, .mov (.c (.slice none 0 0))⟩] []) (.kill [p8] (.seq (.reg [⟨(some p9), none, .mov (.c (.int .i64 0))⟩, ⟨(some p10), none, .mov (.c (.int .i64 1))⟩] []) (.seq (.seq (.reg [⟨(some p15), none, .mov (.t p3)⟩, ⟨(some p16), none, .un .not (.t p15)⟩] []) (.kill [p3, p15] (.cond (.t p16) (.kill [p16] (.seq (.reg [⟨(some p9), none, .mov (.c (.int .i64 1))⟩] []) (.reg [⟨(some p10), none, .mov (.c (.int .i64 0))⟩] []))) .skip))) (.kill [p16] (.seq (.reg [⟨(some p17), none, .mov (.t p0)⟩, ⟨(some p18), none, .mov (.t p1)⟩, ⟨(some p19), none, .bslice 2 1 [(.int .i64 0)] [(0, 1, (.t p17)), (1, 1, (.t p18))]⟩, ⟨(some p11), none, .mov (.t p19)⟩] []) (.kill [p0, p1, p17, p18, p19] (.seq (.reg [⟨(some p20), none, .bslice 2 1 [(.int .i64 0)] [(0, 1, (.c (.int .i64 0))), (1, 1, (.c (.int .i64 0)))]⟩, ⟨(some p12), none, .mov (.t p20)⟩] []) (.kill [p20] (.seq (.reg [⟨(some p13), none, .mov (.c (.slice none 0 0))⟩] []) (.seq (.block 0 (.loop (.seq (.seq (.reg [⟨(some p21), none, .mov (.t p12)⟩, ⟨(some p22), none, .mov (.t p2)⟩, ⟨(some p23), none, .call (.c (.func (.func 36) #[] #[])) [(.t p21), (.t p22)]⟩, ⟨(some p24), none, .un .not (.t p23)⟩] []) (.kill [p21, p22, p23] (.cond (.t p24) .skip (.exit 0)))) (.kill [p24] (.block 1 (.seq (.reg [⟨(some p25), none, .mov (.t p9)⟩, ⟨(some p26), none, .mov (.t p10)⟩, ⟨(some p27), none, .build [(.int .i64 0), (.int .i64 0)] [(0, 1, (.t p25)), (1, 1, (.t p26))]⟩, ⟨(some p14), none, .zero [(.int .i64 0), (.int .i64 0)]⟩, ⟨none, none, .st 2 (.t p14) (.t p27)⟩] []) (.kill [p25, p26, p27] (.seq (.seq (.reg [⟨(some p28), none, .mov (.t p12)⟩, ⟨(some p29), none, .mov (.t p10)⟩, ⟨(some p30), none, .ias 1 (.t p28) (.t p29)⟩, ⟨(some p31), none, .ld none (.t p30)⟩, ⟨(some p32), none, .mov (.t p11)⟩, ⟨(some p33), none, .mov (.t p10)⟩, ⟨(some p34), none, .ias 1 (.t p32) (.t p33)⟩, ⟨(some p35), none, .ld none (.t p34)⟩, ⟨(some p36), none, .bin .eql (.t p31) (.t p35)⟩] []) (.kill [p28, p29, p30, p31, p32, p33, p34, p35] (.cond (.t p36) (.kill [p36] (.reg [⟨(some p37), none, .mov (.t p10)⟩, ⟨(some p38), none, .build [(.int .i64 0), (.int .i64 0)] [(0, 1, (.t p37)), (1, 1, (.c (.int .i64 (-1))))]⟩, ⟨none, none, .st 2 (.t p14) (.t p38)⟩] [])) (.kill [p36] (.seq (.reg [⟨(some p39), none, .mov (.t p12)⟩, ⟨(some p40), none, .mov (.t p9)⟩, ⟨(some p41), none, .ias 1 (.t p39) (.t p40)⟩, ⟨(some p42), none, .ld none (.t p41)⟩, ⟨(some p43), none, .bin .eql (.t p42) (.c (.int .i64 0))⟩] []) (.kill [p39, p40, p41, p42] (.cond (.t p43) (.kill [p43] (.reg [⟨(some p44), none, .mov (.t p9)⟩, ⟨(some p45), none, .build [(.int .i64 0), (.int .i64 0)] [(0, 1, (.c (.int .i64 (-1)))), (1, 1, (.t p44))]⟩, ⟨none, none, .st 2 (.t p14) (.t p45)⟩] [])) .skip))))))) (.kill [p36, p37, p38, p43, p44, p45] (.seq (.reg [⟨(some p47), none, .mov (.t p11)⟩, ⟨(some p48), none, .mov (.t p12)⟩, ⟨(some p49), none, .ld (some 2) (.t p14)⟩, ⟨(some p50), none, .call (.c (.func (.func 49) #[] #[])) [(.t p47), (.t p48), (.t p49)]⟩, ⟨(some p46), none, .mov (.t p50)⟩, ⟨(some p51), none, .ext 0 (.t p46)⟩, ⟨(some p52), none, .ext 1 (.t p46)⟩, ⟨(some p12), none, .mov (.t p51)⟩] []) (.kill [p46, p47, p48, p49, p50, p51, p52] (.reg [⟨(some p53), none, .mov (.t p13)⟩, ⟨(some p54), none, .ld (some 2) (.t p14)⟩, ⟨(some p55), none, .bslice 1 2 [(.int .i64 0), (.int .i64 0)] [(0, 2, (.t p54))]⟩, ⟨(some p56), none, .app 2 (.t p53) (.t p55)⟩, ⟨(some p13), none, .mov (.t p56)⟩] [])))))))))))) (.kill [p2, p9, p10, p11, p12, p24] (.seq (.reg [⟨(some p57), none, .mov (.t p13)⟩, ⟨(some p8), none, .mov (.t p57)⟩] []) .ret))))))))))))) }
def a29 : AFunc := { params := [p0, p1], init := i26, results := [.tmp p4], body := (.seq (.reg [⟨(some p4), none, .mov (.c (.bool false))⟩] []) (.kill [p4] (.seq (.seq (.reg [⟨(some p6), none, .mov (.t p0)⟩, ⟨(some p7), none, .len 1 (.t p6)⟩, ⟨(some p8), none, .mov (.t p1)⟩, ⟨(some p9), none, .len 1 (.t p8)⟩, ⟨(some p10), none, .bin .neq (.t p7) (.t p9)⟩] []) (.kill [p6, p7, p8, p9] (.cond (.t p10) (.kill [p10] (.seq (.reg [⟨(some p4), none, .mov (.c (.bool false))⟩] []) .ret)) .skip))) (.kill [p10] (.seq (.seq (.reg [⟨(some p5), none, .mov (.c (.int .i64 0))⟩] []) (.block 0 (.loop (.seq (.seq (.reg [⟨(some p11), none, .mov (.t p5)⟩, ⟨(some p12), none, .mov (.t p0)⟩, ⟨(some p13), none, .len 1 (.t p12)⟩, ⟨(some p14), none, .bin .lss (.t p11) (.t p13)⟩] []) (.kill [p11, p12, p13] (.cond (.t p14) .skip (.exit 0)))) (.kill [p14] (.seq (.block 1 (.seq (.reg [⟨(some p17), none, .mov (.t p0)⟩, ⟨(some p18), none, .mov (.t p5)⟩, ⟨(some p19), none, .ias 2 (.t p17) (.t p18)⟩, ⟨(some p20), none, .ld (some 2) (.t p19)⟩, ⟨(some p21), none, .mov (.t p1)⟩, ⟨(some p22), none, .mov (.t p5)⟩, ⟨(some p23), none, .ias 2 (.t p21) (.t p22)⟩, ⟨(some p24), none, .ld (some 2) (.t p23)⟩, ⟨(some p25), none, .eqs (.cells [.int, .int]) true (.t p20) (.t p24)⟩] []) (.kill [p17, p18, p19, p20, p21, p22, p23, p24] (.cond (.t p25) (.kill [p25] (.seq (.reg [⟨(some p4), none, .mov (.c (.bool false))⟩] []) .ret)) .skip)))) (.kill [p25] (.reg [⟨(some p15), none, .mov (.t p5)⟩, ⟨(some p16), none, .bin .add (.t p15) (.c (.int .i64 1))⟩, ⟨(some p5), none, .mov (.t p16)⟩] [])))))))) (.kill [p0, p1, p5, p14] (.seq (.reg [⟨(some p4), none, .mov (.c (.bool true))⟩] []) .ret))))))) }
def a30 : AFunc := { params := [p0], init := i25, results := [.tmp p2, .tmp p3], body := (.seq (.reg [⟨(some p2), none, .mov (.c (.slice none 0 0))⟩, ⟨(some p3), none, .mov (.c (.int .i64 0))⟩] []) (.kill [p2, p3] (.seq (.seq (.reg [⟨(some p7), none, .mov (.t p0)⟩, ⟨(some p8), none, .call (.c (.func (.func 43) #[] #[])) [(.t p7)]⟩, ⟨(some p4), none, .mov (.t p8)⟩] []) (.kill [p7, p8] (.seq (.reg [⟨(some p9), none, .mov (.t p4)⟩, ⟨(some p10), none, .bin .neq (.t p9) (.c (.int .i64 0))⟩] []) (.kill [p9] (.cond (.t p10) (.kill [p10] (.seq (.reg [⟨(some p11), none, .mov (.t p4)⟩, ⟨(some p2), none, .mov (.c (.slice none 0 0))⟩, ⟨(some p3), none, .mov (.t p11)⟩] []) .ret)) .skip))))) (.kill [p10] (.seq (.reg [⟨(some p5), none, .mov (.c (.slice none 0 0))⟩] []) (.seq (.seq (.reg [⟨(some p6), none, .mov (.c (.int .i64 0))⟩] []) (.block 0 (.loop (.seq (.seq (.reg [⟨(some p12), none, .mov (.t p6)⟩, ⟨(some p13), none, .mov (.t p0)⟩, ⟨(some p14), none, .call (.c (.func (.func 57) #[] #[])) [(.t p13)]⟩, ⟨(some p15), none, .bin .leq (.t p12) (.t p14)⟩] []) (.kill [p12, p13, p14] (.cond (.t p15) .skip (.exit 0)))) (.kill [p15] (.seq (.block 1 (.reg [⟨(some p20), none, .mov (.t p5)⟩, ⟨(some p21), none, .mov (.t p6)⟩, ⟨(some p22), none, .bslice 1 1 [(.int .i64 0)] [(0, 1, (.t p21))]⟩, ⟨(some p23), none, .app 1 (.t p20) (.t p22)⟩, ⟨(some p5), none, .mov (.t p23)⟩] [])) (.kill [p20, p21, p22, p23] (.reg [⟨(some p16), none, .mov (.t p6)⟩, ⟨(some p17), none, .mov (.t p0)⟩, ⟨(some p18), none, .call (.c (.func (.func 58) #[] #[])) [(.t p17)]⟩, ⟨(some p19), none, .bin .add (.t p16) (.t p18)⟩, ⟨(some p6), none, .mov (.t p19)⟩] [])))))))) (.kill [p0, p6, p15] (.seq (.reg [⟨(some p24), none, .mov (.t p5)⟩, ⟨(some p2), none, .mov (.t p24)⟩, ⟨(some p3), none, .mov (.c (.int .i64 0))⟩] []) .ret)))))))) }
def a31 : AFunc := { params := [p0, p1], init := i21, results := [.tmp p4, .tmp p5, .tmp p6], body := (.seq (.reg [⟨(some p4), none, .mov (.c (.int .i64 0))⟩, ⟨(some p5), none, .mov (.c (.bool false))⟩, ⟨(some p6), none, .mov (.c (.int .i64 0))⟩] []) (.kill [p4, p5, p6] (.seq (.reg [⟨(some p11), none, .mov (.t p0)⟩, ⟨(some p12), none, .mov (.t p1)⟩, ⟨(some p13), none, .call (.c (.func (.func 59) #[] #[])) [(.t p11), (.t p12)]⟩, ⟨(some p10), none, .mov (.t p13)⟩, ⟨(some p14), none, .ext 0 (.t p10)⟩, ⟨(some p15), none, .ext 1 (.t p10)⟩, ⟨(some p16), none, .ext 2 (.t p10)⟩, ⟨(some p7), none, .mov (.t p14)⟩, ⟨(some p8), none, .mov (.t p15)⟩, ⟨(some p9), none, .mov (.t p16)⟩] []) (.kill [p0, p1, p10, p11, p12, p13, p14, p15, p16] (.seq (.reg [⟨(some p17), none, .mov (.t p7)⟩, ⟨(some p18), none, .len 1 (.t p17)⟩, ⟨(some p19), none, .mov (.t p8)⟩, ⟨(some p20), none, .mov (.t p9)⟩, ⟨(some p4), none, .mov (.t p18)⟩, ⟨(some p5), none, .mov (.t p19)⟩, ⟨(some p6), none, .mov (.t p20)⟩] []) .ret))))) }
def a33 : AFunc := { params := [p0, p1], init := i26, results := [.tmp p4], body := (.seq (.reg [⟨(some p4), none, .mov (.c (.bool false))⟩] []) (.kill [p4] (.seq (.seq (.reg [⟨(some p6), none, .mov (.t p0)⟩, ⟨(some p7), none, .len 1 (.t p6)⟩, ⟨(some p8), none, .mov (.t p1)⟩, ⟨(some p9), none, .len 1 (.t p8)⟩, ⟨(some p10), none, .bin .neq (.t p7) (.t p9)⟩] []) (.kill [p6, p7, p8, p9] (.cond (.t p10) (.kill [p10] (.seq (.reg [⟨(some p4), none, .mov (.c (.bool false))⟩] []) .ret)) .skip))) (.kill [p10] (.seq (.seq (.reg [⟨(some p5), none, .mov (.c (.int .i64 0))⟩] []) (.block 0 (.loop (.seq (.seq (.reg [⟨(some p11), none, .mov (.t p5)⟩, ⟨(some p12), none, .mov (.t p0)⟩, ⟨(some p13), none, .len 1 (.t p12)⟩, ⟨(some p14), none, .bin .lss (.t p11) (.t p13)⟩] []) (.kill [p11, p12, p13] (.cond (.t p14) .skip (.exit 0)))) (.kill [p14] (.seq (.block 1 (.seq (.reg [⟨(some p17), none, .mov (.t p0)⟩, ⟨(some p18), none, .mov (.t p5)⟩, ⟨(some p19), none, .ias 1 (.t p17) (.t p18)⟩, ⟨(some p20), none, .ld none (.t p19)⟩, ⟨(some p21), none, .mov (.t p1)⟩, ⟨(some p22), none, .mov (.t p5)⟩, ⟨(some p23), none, .ias 1 (.t p21) (.t p22)⟩, ⟨(some p24), none, .ld none (.t p23)⟩, ⟨(some p25), none, .bin .neq (.t p20) (.t p24)⟩] []) (.kill [p17, p18, p19, p20, p21, p22, p23, p24] (.cond (.t p25) (.kill [p25] (.seq (.reg [⟨(some p4), none, .mov (.c (.bool false))⟩] []) .ret)) .skip)))) (.kill [p25] (.reg [⟨(some p15), none, .mov (.t p5)⟩, ⟨(some p16), none, .bin .add (.t p15) (.c (.int .i64 1))⟩, ⟨(some p5), none, .mov (.t p16)⟩] [])))))))) (.kill [p0, p1, p5, p14] (.seq (.reg [⟨(some p4), none, .mov (.c (.bool true))⟩] []) .ret))))))) }
def a36 : AFunc := { params := [p0, p1], init := i18, results := [.tmp p4], body := (.seq (.reg [⟨(some p4), none, .mov (.c (.bool false))⟩] []) (.kill [p4] (.seq (.seq (.reg [⟨(some p5), none, .mov (.c (.int .i64 0))⟩] []) (.block 0 (.loop (.seq (.seq (.reg [⟨(some p6), none, .mov (.t p5)⟩, ⟨(some p7), none, .mov (.t p0)⟩, ⟨(some p8), none, .len 1 (.t p7)⟩, ⟨(some p9), none, .bin .lss (.t p6) (.t p8)⟩] []) (.kill [p6, p7, p8] (.cond (.t p9) .skip (.exit 0)))) (.kill [p9] (.seq (.block 1 (.seq (.reg [⟨(some p12), none, .mov (.t p0)⟩, ⟨(some p13), none, .mov (.t p5)⟩, ⟨(some p14), none, .ias 1 (.t p12) (.t p13)⟩, ⟨(some p15), none, .ld none (.t p14)⟩, ⟨(some p16), none, .mov (.t p1)⟩, ⟨(some p17), none, .bin .eql (.t p15) (.t p16)⟩] []) (.kill [p12, p13, p14, p15, p16] (.cond (.t p17) (.kill [p17] (.seq (.reg [⟨(some p4), none, .mov (.c (.bool true))⟩] []) .ret)) .skip)))) (.kill [p17] (.reg [⟨(some p10), none, .mov (.t p5)⟩, ⟨(some p11), none, .bin .add (.t p10) (.c (.int .i64 1))⟩, ⟨(some p5), none, .mov (.t p11)⟩] [])))))))) (.kill [p0, p1, p5, p9] (.seq (.reg [⟨(some p4), none, .mov (.c (.bool false))⟩] []) .ret))))) }
def a43 : AFunc := { params := [p0], init := i21, results := [.tmp p2], body := (.seq (.reg [⟨(some p2), none, .mov (.c (.int .i64 0))⟩] []) (.kill [p2] (.seq (.seq (.reg [⟨(some p3), none, .mov (.t p0)⟩, ⟨(some p4), none, .len 1 (.t p3)⟩, ⟨(some p5), none, .bin .lss (.t p4) (.c (.int .i64 1))⟩, ⟨(some p6), none, .mov (.t p5)⟩, ⟨(some p7), (some (p6, false)), .mov (.t p0)⟩, ⟨(some p8), (some (p6, false)), .len 1 (.t p7)⟩, ⟨(some p9), (some (p6, false)), .bin .gtr (.t p8) (.c (.int .i64 4))⟩, ⟨(some p10), none, .pick (.t p6) (.c (.bool true)) (.t p9)⟩, ⟨(some p11), none, .mov (.t p10)⟩, ⟨(some p12), (some (p11, false)), .mov (.t p0)⟩, ⟨(some p13), (some (p11, false)), .call (.c (.func (.func 64) #[] #[])) [(.t p12)]⟩, ⟨(some p14), (some (p11, false)), .bin .lss (.t p13) (.c (.int .i64 1))⟩, ⟨(some p15), none, .pick (.t p11) (.c (.bool true)) (.t p14)⟩, ⟨(some p16), none, .mov (.t p15)⟩, ⟨(some p17), (some (p16, false)), .mov (.t p0)⟩, ⟨(some p18), (some (p16, false)), .call (.c (.func (.func 57) #[] #[])) [(.t p17)]⟩, ⟨(some p19), (some (p16, false)), .bin .gtr (.t p18) (.c (.int .i64 12))⟩, ⟨(some p20), none, .pick (.t p16) (.c (.bool true)) (.t p19)⟩] []) (.kill [p0, p3, p4, p5, p6, p7, p8, p9, p10, p11, p12, p13, p14, p15, p16, p17, p18, p19] (.cond (.t p20) (.kill [p20] (.seq (.reg [⟨(some p2), none, .mov (.c (.int .i64 20))⟩] []) .ret)) .skip))) (.kill [p20] (.seq (.reg [⟨(some p2), none, .mov (.c (.int .i64 0))⟩] []) .ret))))) }
def a46 : AFunc := { params := [p0, p1, p2], init := i63, results := [.tmp p6, .tmp p7], body := (.seq (.reg [⟨(some p6), none, .mov (.c (.pointer none))⟩, ⟨(some p7), none, .mov (.c (.int .i64 0))⟩] []) (.kill [p6, p7] (.seq (.seq (.reg [⟨(some p14), none, .mov (.t p0)⟩, ⟨(some p15), none, .call (.c (.func (.func 43) #[] #[])) [(.t p14)]⟩, ⟨(some p8), none, .mov (.t p15)⟩] []) (.kill [p14, p15] (.seq (.reg [⟨(some p16), none, .mov (.t p8)⟩, ⟨(some p17), none, .bin .neq (.t p16) (.c (.int .i64 0))⟩] []) (.kill [p16] (.cond (.t p17) (.kill [p17] (.seq (.reg [⟨(some p18), none, .mov (.t p8)⟩, ⟨(some p6), none, .mov (.c (.pointer none))⟩, ⟨(some p7), none, .mov (.t p18)⟩] []) .ret)) .skip))))) (.kill [p17] (.seq (.reg [⟨(some p19), none, .mov (.t p0)⟩, ⟨(some p20), none, .len 1 (.t p19)⟩, ⟨(some p21), none, .mov (.t p1)⟩, ⟨(some p22), none, .build [(.int .i64 0), (.int .i64 0), (.int .i64 0), (.int .i64 0), (.int .i64 0), (.bool false)] [(0, 1, (.t p20)), (5, 1, (.t p21))]⟩, ⟨(some p23), none, .box (.t p22)⟩, ⟨(some p9), none, .mov (.t p23)⟩] []) (.kill [p1, p19, p20, p21, p22, p23] (.seq (.reg [⟨(some p24), none, .mov (.t p9)⟩, ⟨(some p25), none, .nilchk (.t p24)⟩, ⟨(some p26), none, .fad 1 (.t p25)⟩, ⟨(some p27), none, .slarr 4 1 (.t p26) none none none⟩, ⟨(some p28), none, .mov (.t p0)⟩, ⟨(some p29), none, .cpy 1 (.t p27) (.t p28)⟩] []) (.kill [p24, p25, p26, p27, p28, p29] (.seq (.seq (.reg [⟨(some p30), none, .mov (.t p2)⟩, ⟨(some p31), none, .len 1 (.t p30)⟩, ⟨(some p32), none, .mov (.c (.int .i64 0))⟩] []) (.kill [p2] (.block 0 (.loop (.seq (.reg [⟨(some p33), none, .bin .lss (.t p32) (.t p31)⟩] []) (.seq (.cond (.t p33) .skip (.exit 0)) (.kill [p33] (.seq (.block 1 (.seq (.reg [⟨(some p34), none, .ias 1 (.t p30) (.t p32)⟩, ⟨(some p35), none, .ld none (.t p34)⟩, ⟨(some p11), none, .mov (.t p35)⟩] []) (.kill [p34, p35] (.seq (.seq (.reg [⟨(some p36), none, .mov (.t p11)⟩, ⟨(some p37), none, .len 1 (.t p36)⟩, ⟨(some p38), none, .mov (.t p9)⟩, ⟨(some p39), none, .nilchk (.t p38)⟩, ⟨(some p40), none, .fad 0 (.t p39)⟩, ⟨(some p41), none, .ld none (.t p40)⟩, ⟨(some p42), none, .bin .neq (.t p37) (.t p41)⟩] []) (.kill [p36, p37, p38, p39, p40, p41] (.cond (.t p42) (.kill [p42] (.seq (.reg [⟨(some p6), none, .mov (.c (.pointer none))⟩, ⟨(some p7), none, .mov (.c (.int .i64 1))⟩] []) .ret)) .skip))) (.kill [p42] (.seq (.reg [⟨(some p43), none, .mov (.t p11)⟩, ⟨(some p44), none, .len 1 (.t p43)⟩, ⟨(some p45), none, .mov (.c (.int .i64 0))⟩] []) (.kill [p11] (.block 2 (.loop (.seq (.reg [⟨(some p46), none, .bin .lss (.t p45) (.t p44)⟩] []) (.seq (.cond (.t p46) .skip (.exit 2)) (.kill [p46] (.seq (.block 3 (.seq (.reg [⟨(some p47), none, .mov (.t p45)⟩, ⟨(some p48), none, .ias 1 (.t p43) (.t p45)⟩, ⟨(some p49), none, .ld none (.t p48)⟩, ⟨(some p12), none, .mov (.t p47)⟩, ⟨(some p13), none, .mov (.t p49)⟩] []) (.kill [p47, p48, p49] (.seq (.reg [⟨(some p50), none, .mov (.t p13)⟩, ⟨(some p51), none, .bin .lss (.t p50) (.c (.int .i64 0))⟩, ⟨(some p52), none, .mov (.t p51)⟩, ⟨(some p53), (some (p52, false)), .mov (.t p13)⟩, ⟨(some p54), (some (p52, false)), .mov (.t p0)⟩, ⟨(some p55), (some (p52, false)), .mov (.t p12)⟩, ⟨(some p56), (some (p52, false)), .ias 1 (.t p54) (.t p55)⟩, ⟨(some p57), (some (p52, false)), .ld none (.t p56)⟩, ⟨(some p58), (some (p52, false)), .bin .gtr (.t p53) (.t p57)⟩, ⟨(some p59), none, .pick (.t p52) (.c (.bool true)) (.t p58)⟩] []) (.kill [p12, p13, p50, p51, p52, p53, p54, p55, p56, p57, p58] (.cond (.t p59) (.kill [p59] (.seq (.reg [⟨(some p6), none, .mov (.c (.pointer none))⟩, ⟨(some p7), none, .mov (.c (.int .i64 1))⟩] []) .ret)) .skip)))))) (.kill [p59] (.reg [⟨(some p60), none, .bin .add (.t p45) (.c (.int .i64 1))⟩, ⟨(some p45), none, .mov (.t p60)⟩] []))))))))))))))) (.kill [p43, p44, p45, p46] (.reg [⟨(some p61), none, .bin .add (.t p32) (.c (.int .i64 1))⟩, ⟨(some p32), none, .mov (.t p61)⟩] [])))))))))) (.kill [p0, p30, p31, p32, p33, p46] (.seq (.reg [⟨(some p62), none, .mov (.t p9)⟩, ⟨(some p6), none, .mov (.t p62)⟩, ⟨(some p7), none, .mov (.c (.int .i64 0))⟩] []) .ret))))))))))) }
def a47 : AFunc := { params := [p0, p1], init := i6, results := [.tmp p4], body := (.seq (.reg [⟨(some p2), none, .box (.t p0)⟩, ⟨(some p3), none, .box (.t p1)⟩, ⟨(some p4), none, .mov (.c .nilFunc)⟩] []) (.kill [p0, p1, p4] (.seq (.reg [⟨(some p5), none, .clos (.func 65) [] [(.t p2), (.t p3)]⟩, ⟨(some p4), none, .mov (.t p5)⟩] []) .ret))) }
def a48 : AFunc := { params := [p0], init := i8, results := [.cell (some 4) p2], body := (.seq (.reg [⟨(some p2), none, .zero [(.int .i64 0), (.int .i64 0), (.int .i64 0), (.int .i64 0)]⟩] []) (.seq (.reg [⟨(some p3), none, .zero [(.int .i64 0), (.int .i64 0), (.int .i64 0), (.int .i64 0)]⟩] []) (.seq (.reg [⟨(some p4), none, .slarr 4 1 (.t p3) none none none⟩, ⟨(some p5), none, .mov (.t p0)⟩, ⟨(some p6), none, .cpy 1 (.t p4) (.t p5)⟩] []) (.kill [p0, p4, p5, p6] (.seq (.reg [⟨(some p7), none, .ld (some 4) (.t p3)⟩, ⟨none, none, .st 4 (.t p2) (.t p7)⟩] []) .ret))))) }
def a49 : AFunc := { params := [p0, p1, p2], init := i93, results := [.tmp p6, .tmp p7], body := (.seq (.reg [⟨(some p5), none, .box (.t p2)⟩, ⟨(some p6), none, .mov (.c (.slice none 0 0))⟩, ⟨(some p7), none, .mov (.c (.bool false))⟩] []) (.kill [p2, p6, p7] (.seq (.reg [⟨(some p13), none, .iad 2 1 (.t p5) (.c (.int .i64 0))⟩, ⟨(some p14), none, .ld none (.t p13)⟩, ⟨(some p15), none, .iad 2 1 (.t p5) (.c (.int .i64 1))⟩, ⟨(some p16), none, .ld none (.t p15)⟩, ⟨(some p8), none, .mov (.t p14)⟩, ⟨(some p9), none, .mov (.t p16)⟩] []) (.kill [p5, p13, p14, p15, p16] (.seq (.reg [⟨(some p17), none, .mov (.t p0)⟩, ⟨(some p18), none, .len 1 (.t p17)⟩, ⟨(some p10), none, .mov (.t p18)⟩] []) (.kill [p17, p18] (.seq (.seq (.reg [⟨(some p19), none, .mov (.t p8)⟩, ⟨(some p20), none, .bin .lss (.t p19) (.c (.int .i64 (-1)))⟩, ⟨(some p21), none, .mov (.t p20)⟩, ⟨(some p22), (some (p21, false)), .mov (.t p8)⟩, ⟨(some p23), (some (p21, false)), .mov (.t p10)⟩, ⟨(some p24), (some (p21, false)), .bin .geq (.t p22) (.t p23)⟩, ⟨(some p25), none, .pick (.t p21) (.c (.bool true)) (.t p24)⟩, ⟨(some p26), none, .mov (.t p25)⟩, ⟨(some p27), (some (p26, false)), .mov (.t p9)⟩, ⟨(some p28), (some (p26, false)), .bin .lss (.t p27) (.c (.int .i64 (-1)))⟩, ⟨(some p29), none, .pick (.t p26) (.c (.bool true)) (.t p28)⟩, ⟨(some p30), none, .mov (.t p29)⟩, ⟨(some p31), (some (p30, false)), .mov (.t p9)⟩, ⟨(some p32), (some (p30, false)), .mov (.t p10)⟩, ⟨(some p33), (some (p30, false)), .bin .geq (.t p31) (.t p32)⟩, ⟨(some p34), none, .pick (.t p30) (.c (.bool true)) (.t p33)⟩, ⟨(some p35), none, .mov (.t p34)⟩, ⟨(some p36), (some (p35, false)), .mov (.t p8)⟩, ⟨(some p37), (some (p35, false)), .mov (.t p9)⟩, ⟨(some p38), (some (p35, false)), .bin .eql (.t p36) (.t p37)⟩, ⟨(some p39), none, .pick (.t p35) (.c (.bool true)) (.t p38)⟩] []) (.kill [p10, p19, p20, p21, p22, p23, p24, p25, p26, p27, p28, p29, p30, p31, p32, p33, p34, p35, p36, p37, p38] (.cond (.t p39) (.kill [p39] (.seq (.reg [⟨(some p40), none, .mov (.t p1)⟩, ⟨(some p6), none, .mov (.t p40)⟩, ⟨(some p7), none, .mov (.c (.bool false))⟩] []) .ret)) .skip))) (.kill [p39] (.seq (.reg [⟨(some p11), none, .mov (.c (.slice none 0 0))⟩] []) (.seq (.reg [⟨(some p41), none, .mov (.t p11)⟩, ⟨(some p42), none, .mov (.t p1)⟩, ⟨(some p43), none, .app 1 (.t p41) (.t p42)⟩, ⟨(some p11), none, .mov (.t p43)⟩] []) (.kill [p41, p42, p43] (.seq (.block 0 (.seq (.reg [⟨(some p77), none, .mov (.t p8)⟩, ⟨(some p78), none, .bin .eql (.t p77) (.c (.int .i64 (-1)))⟩, ⟨(some p76), none, .mov (.t p78)⟩] []) (.kill [p77, p78] (.cond (.t p76) (.kill [p76] (.reg [⟨(some p79), none, .mov (.t p11)⟩, ⟨(some p80), none, .mov (.t p9)⟩, ⟨(some p81), none, .mov (.t p0)⟩, ⟨(some p82), none, .mov (.t p9)⟩, ⟨(some p83), none, .ias 1 (.t p81) (.t p82)⟩, ⟨(some p84), none, .ld none (.t p83)⟩, ⟨(some p85), none, .ias 1 (.t p79) (.t p80)⟩, ⟨none, none, .st 1 (.t p85) (.t p84)⟩] [])) (.kill [p76] (.seq (.reg [⟨(some p87), none, .mov (.t p9)⟩, ⟨(some p88), none, .bin .eql (.t p87) (.c (.int .i64 (-1)))⟩, ⟨(some p86), none, .mov (.t p88)⟩] []) (.kill [p87, p88] (.cond (.t p86) (.kill [p86] (.reg [⟨(some p89), none, .mov (.t p11)⟩, ⟨(some p90), none, .mov (.t p8)⟩, ⟨(some p91), none, .ias 1 (.t p89) (.t p90)⟩, ⟨none, none, .st 1 (.t p91) (.c (.int .i64 0))⟩] [])) (.kill [p86] (.seq (.reg [⟨(some p44), none, .mov (.t p1)⟩, ⟨(some p45), none, .mov (.t p8)⟩, ⟨(some p46), none, .ias 1 (.t p44) (.t p45)⟩, ⟨(some p47), none, .ld none (.t p46)⟩, ⟨(some p48), none, .mov (.t p0)⟩, ⟨(some p49), none, .mov (.t p9)⟩, ⟨(some p50), none, .ias 1 (.t p48) (.t p49)⟩, ⟨(some p51), none, .ld none (.t p50)⟩, ⟨(some p52), none, .mov (.t p1)⟩, ⟨(some p53), none, .mov (.t p9)⟩, ⟨(some p54), none, .ias 1 (.t p52) (.t p53)⟩, ⟨(some p55), none, .ld none (.t p54)⟩, ⟨(some p56), none, .bin .sub (.t p51) (.t p55)⟩, ⟨(some p57), none, .min (.t p47) [(.t p56)]⟩, ⟨(some p12), none, .mov (.t p57)⟩] []) (.kill [p0, p44, p45, p46, p47, p48, p49, p50, p51, p52, p53, p54, p55, p56, p57] (.seq (.reg [⟨(some p58), none, .mov (.t p11)⟩, ⟨(some p59), none, .mov (.t p8)⟩, ⟨(some p60), none, .mov (.t p1)⟩, ⟨(some p61), none, .mov (.t p8)⟩, ⟨(some p62), none, .ias 1 (.t p60) (.t p61)⟩, ⟨(some p63), none, .ld none (.t p62)⟩, ⟨(some p64), none, .mov (.t p12)⟩, ⟨(some p65), none, .bin .sub (.t p63) (.t p64)⟩, ⟨(some p66), none, .ias 1 (.t p58) (.t p59)⟩, ⟨none, none, .st 1 (.t p66) (.t p65)⟩] []) (.kill [p8, p58, p59, p60, p61, p62, p63, p64, p65, p66] (.reg [⟨(some p67), none, .mov (.t p11)⟩, ⟨(some p68), none, .mov (.t p9)⟩, ⟨(some p69), none, .mov (.t p1)⟩, ⟨(some p70), none, .mov (.t p9)⟩, ⟨(some p71), none, .ias 1 (.t p69) (.t p70)⟩, ⟨(some p72), none, .ld none (.t p71)⟩, ⟨(some p73), none, .mov (.t p12)⟩, ⟨(some p74), none, .bin .add (.t p72) (.t p73)⟩, ⟨(some p75), none, .ias 1 (.t p67) (.t p68)⟩, ⟨none, none, .st 1 (.t p75) (.t p74)⟩] [])))))))))))))) (.kill [p0, p1, p8, p9, p12, p67, p68, p69, p70, p71, p72, p73, p74, p75, p76, p79, p80, p81, p82, p83, p84, p85, p86, p89, p90, p91] (.seq (.reg [⟨(some p92), none, .mov (.t p11)⟩, ⟨(some p6), none, .mov (.t p92)⟩, ⟨(some p7), none, .mov (.c (.bool true))⟩] []) .ret)))))))))))))) }
def a51 : AFunc := { params := [p0, p1, p2], init := i44, results := [.tmp p6, .tmp p7], body := (.seq (.reg [⟨(some p4), none, .box (.t p1)⟩, ⟨(some p6), none, .mov (.c (.slice none 0 0))⟩, ⟨(some p7), none, .mov (.c (.bool false))⟩] []) (.kill [p1, p6, p7] (.seq (.reg [⟨(some p14), none, .mov (.t p0)⟩, ⟨(some p15), none, .ld (some 4) (.t p4)⟩, ⟨(some p16), none, .mov (.t p2)⟩, ⟨(some p17), none, .call (.c (.func (.func 66) #[] #[])) [(.t p14), (.t p15), (.t p16)]⟩, ⟨(some p13), none, .mov (.t p17)⟩, ⟨(some p18), none, .ext 0 (.t p13)⟩, ⟨(some p19), none, .ext 1 (.t p13)⟩, ⟨(some p20), none, .ext 2 (.t p13)⟩, ⟨(some p9), none, .zero [(.int .i64 0), (.int .i64 0), (.int .i64 0), (.int .i64 0)]⟩, ⟨(some p8), none, .mov (.t p18)⟩, ⟨none, none, .st 4 (.t p9) (.t p19)⟩, ⟨(some p10), none, .mov (.t p20)⟩] []) (.kill [p0, p2, p13, p14, p15, p16, p17, p18, p19, p20] (.seq (.seq (.reg [⟨(some p21), none, .mov (.t p10)⟩, ⟨(some p22), none, .un .not (.t p21)⟩] []) (.kill [p10, p21] (.cond (.t p22) (.kill [p22] (.seq (.reg [⟨(some p6), none, .mov (.c (.slice none 0 0))⟩, ⟨(some p7), none, .mov (.c (.bool false))⟩] []) .ret)) .skip))) (.kill [p22] (.seq (.reg [⟨(some p11), none, .mov (.c (.slice none 0 0))⟩] []) (.seq (.block 0 (.loop (.seq (.seq (.reg [⟨(some p23), none, .ld (some 4) (.t p9)⟩, ⟨(some p24), none, .ld (some 4) (.t p4)⟩, ⟨(some p25), none, .eqs (.cells [.int, .int, .int, .int]) true (.t p23) (.t p24)⟩] []) (.kill [p23, p24] (.cond (.t p25) .skip (.exit 0)))) (.kill [p25] (.block 1 (.seq (.reg [⟨(some p26), none, .mov (.t p8)⟩, ⟨(some p27), none, .ld (some 4) (.t p9)⟩, ⟨(some p28), none, .look false [.int, .int, .int, .int] (.agg #[(.int .i64 0), (.int .i64 0), (.int .i64 0), (.int .i64 0), (.int .i64 0), (.int .i64 0), (.int .i64 0)]) (.t p26) (.t p27)⟩, ⟨(some p12), none, .zero [(.int .i64 0), (.int .i64 0), (.int .i64 0), (.int .i64 0), (.int .i64 0), (.int .i64 0), (.int .i64 0)]⟩, ⟨none, none, .st 7 (.t p12) (.t p28)⟩] []) (.kill [p26, p27, p28] (.seq (.reg [⟨(some p29), none, .mov (.t p11)⟩, ⟨(some p30), none, .fad 4 (.t p12)⟩, ⟨(some p31), none, .fad 0 (.t p30)⟩, ⟨(some p32), none, .ld none (.t p31)⟩, ⟨(some p33), none, .fad 4 (.t p12)⟩, ⟨(some p34), none, .fad 1 (.t p33)⟩, ⟨(some p35), none, .ld none (.t p34)⟩, ⟨(some p36), none, .build [(.int .i64 0), (.int .i64 0)] [(0, 1, (.t p32)), (1, 1, (.t p35))]⟩, ⟨(some p37), none, .bslice 1 2 [(.int .i64 0), (.int .i64 0)] [(0, 2, (.t p36))]⟩, ⟨(some p38), none, .app 2 (.t p29) (.t p37)⟩, ⟨(some p11), none, .mov (.t p38)⟩] []) (.kill [p29, p30, p31, p32, p33, p34, p35, p36, p37, p38] (.reg [⟨(some p39), none, .fad 0 (.t p12)⟩, ⟨(some p40), none, .ld (some 4) (.t p39)⟩, ⟨none, none, .st 4 (.t p9) (.t p40)⟩] [])))))))))) (.kill [p4, p8, p9, p25] (.seq (.reg [⟨(some p41), none, .mov (.t p11)⟩, ⟨(some p42), none, .call (.c (.func (.func 67) #[] #[])) [(.t p41)]⟩] []) (.kill [p41, p42] (.seq (.reg [⟨(some p43), none, .mov (.t p11)⟩, ⟨(some p6), none, .mov (.t p43)⟩, ⟨(some p7), none, .mov (.c (.bool true))⟩] []) .ret)))))))))))) }
def a52 : AFunc := { params := [p0, p1], init := i7, results := [.tmp p3], body := (.seq (.reg [⟨(some p2), none, .box (.t p0)⟩, ⟨(some p3), none, .mov (.c (.bool false))⟩] []) (.kill [p0, p3] (.seq (.reg [⟨(some p4), none, .ld (some 4) (.t p2)⟩, ⟨(some p5), none, .ld (some 4) (.t p1)⟩, ⟨(some p6), none, .eqs (.cells [.int, .int, .int, .int]) false (.t p4) (.t p5)⟩, ⟨(some p3), none, .mov (.t p6)⟩] []) .ret))) }
def a53 : AFunc := { params := [p0, p1, p2], init := i36, results := [.tmp p6, .tmp p7], body := (.seq (.reg [⟨(some p6), none, .mov (.c (.bool false))⟩, ⟨(some p7), none, .mov (.c (.int .i64 0))⟩] []) (.kill [p6, p7] (.seq (.seq (.reg [⟨(some p8), none, .mov (.t p0)⟩, ⟨(some p9), none, .mov (.t p1)⟩, ⟨(some p10), none, .min (.t p8) [(.t p9)]⟩, ⟨(some p11), none, .bin .lss (.t p10) (.c (.int .i64 1))⟩, ⟨(some p12), none, .mov (.t p11)⟩, ⟨(some p13), (some (p12, false)), .mov (.t p0)⟩, ⟨(some p14), (some (p12, false)), .mov (.t p1)⟩, ⟨(some p15), (some (p12, false)), .max (.t p13) [(.t p14)]⟩, ⟨(some p16), (some (p12, false)), .bin .gtr (.t p15) (.c (.int .i64 1000))⟩, ⟨(some p17), none, .pick (.t p12) (.c (.bool true)) (.t p16)⟩, ⟨(some p18), none, .mov (.t p17)⟩, ⟨(some p19), (some (p18, false)), .mov (.t p2)⟩, ⟨(some p20), (some (p18, false)), .bin .lss (.t p19) (.c (.int .i64 0))⟩, ⟨(some p21), none, .pick (.t p18) (.c (.bool true)) (.t p20)⟩, ⟨(some p22), none, .mov (.t p21)⟩, ⟨(some p23), (some (p22, false)), .mov (.t p2)⟩, ⟨(some p24), (some (p22, false)), .mov (.t p0)⟩, ⟨(some p25), (some (p22, false)), .mov (.t p1)⟩, ⟨(some p26), (some (p22, false)), .max (.t p24) [(.t p25)]⟩, ⟨(some p27), (some (p22, false)), .bin .gtr (.t p23) (.t p26)⟩, ⟨(some p28), none, .pick (.t p22) (.c (.bool true)) (.t p27)⟩] []) (.kill [p8, p9, p10, p11, p12, p13, p14, p15, p16, p17, p18, p19, p20, p21, p22, p23, p24, p25, p26, p27] (.cond (.t p28) (.kill [p28] (.seq (.reg [⟨(some p6), none, .mov (.c (.bool false))⟩, ⟨(some p7), none, .mov (.c (.int .i64 1))⟩] []) .ret)) .skip))) (.kill [p28] (.seq (.reg [⟨(some p29), none, .mov (.t p2)⟩, ⟨(some p30), none, .mov (.t p0)⟩, ⟨(some p31), none, .mov (.t p1)⟩, ⟨(some p32), none, .bslice 2 1 [(.int .i64 0)] [(0, 1, (.t p30)), (1, 1, (.t p31))]⟩, ⟨(some p33), none, .call (.c (.func (.func 58) #[] #[])) [(.t p32)]⟩, ⟨(some p34), none, .bin .rem (.t p29) (.t p33)⟩, ⟨(some p35), none, .bin .eql (.t p34) (.c (.int .i64 0))⟩, ⟨(some p6), none, .mov (.t p35)⟩, ⟨(some p7), none, .mov (.c (.int .i64 0))⟩] []) .ret))))) }
def a54 : AFunc := { params := [p0, p1, p2], init := i17, results := [.cell (some 7) p6], body := (.seq (.reg [⟨(some p6), none, .zero [(.int .i64 0), (.int .i64 0), (.int .i64 0), (.int .i64 0), (.int .i64 0), (.bool false), (.int .i64 0)]⟩] []) (.seq (.reg [⟨(some p8), none, .mov (.t p0)⟩, ⟨(some p9), none, .mov (.t p1)⟩, ⟨(some p10), none, .build [(.int .i64 0), (.int .i64 0), (.int .i64 0), (.int .i64 0)] [(0, 1, (.t p8)), (1, 1, (.t p9))]⟩, ⟨(some p11), none, .build [(.int .i64 0), (.int .i64 0), (.int .i64 0), (.int .i64 0), (.int .i64 0), (.bool false)] [(0, 1, (.c (.int .i64 2))), (1, 4, (.t p10))]⟩, ⟨(some p12), none, .build [(.int .i64 0), (.int .i64 0), (.int .i64 0), (.int .i64 0), (.int .i64 0), (.bool false), (.int .i64 0)] [(0, 6, (.t p11))]⟩, ⟨(some p7), none, .zero [(.int .i64 0), (.int .i64 0), (.int .i64 0), (.int .i64 0), (.int .i64 0), (.bool false), (.int .i64 0)]⟩, ⟨none, none, .st 7 (.t p7) (.t p12)⟩] []) (.kill [p0, p1, p8, p9, p10, p11, p12] (.seq (.seq (.reg [⟨(some p13), none, .mov (.t p2)⟩, ⟨(some p14), none, .un .not (.t p13)⟩] []) (.kill [p2, p13] (.cond (.t p14) (.kill [p14] (.reg [⟨(some p15), none, .fad 6 (.t p7)⟩, ⟨none, none, .st 1 (.t p15) (.c (.int .i64 1))⟩] [])) .skip))) (.kill [p14, p15] (.seq (.reg [⟨(some p16), none, .ld (some 7) (.t p7)⟩, ⟨none, none, .st 7 (.t p6) (.t p16)⟩] []) .ret)))))) }
def a55 : AFunc := { params := [p0, p1], init := i39, results := [.tmp p4], body := (.seq (.reg [⟨(some p2), none, .box (.t p0)⟩, ⟨(some p4), none, .mov (.c (.slice none 0 0))⟩] []) (.kill [p0, p4] (.seq (.reg [⟨(some p5), none, .mov (.c (.slice none 0 0))⟩] []) (.seq (.reg [⟨(some p9), none, .ld (some 7) (.t p2)⟩, ⟨(some p10), none, .clos (.func 68) [(.t p9)] []⟩, ⟨(some p6), none, .mov (.t p10)⟩] []) (.kill [p9, p10] (.seq (.seq (.reg [⟨(some p11), none, .build [(.int .i64 0), (.int .i64 0), (.int .i64 0), (.int .i64 0)] []⟩, ⟨(some p7), none, .zero [(.int .i64 0), (.int .i64 0), (.int .i64 0), (.int .i64 0)]⟩, ⟨none, none, .st 4 (.t p7) (.t p11)⟩] []) (.kill [p11] (.block 0 (.loop (.seq (.seq (.reg [⟨(some p12), none, .iad 4 1 (.t p7) (.c (.int .i64 0))⟩, ⟨(some p13), none, .ld none (.t p12)⟩, ⟨(some p14), none, .mov (.t p1)⟩, ⟨(some p15), none, .bin .neq (.t p13) (.t p14)⟩, ⟨(some p16), none, .mov (.t p15)⟩, ⟨(some p17), (some (p16, true)), .iad 4 1 (.t p7) (.c (.int .i64 1))⟩, ⟨(some p18), (some (p16, true)), .ld none (.t p17)⟩, ⟨(some p19), (some (p16, true)), .mov (.t p1)⟩, ⟨(some p20), (some (p16, true)), .bin .neq (.t p18) (.t p19)⟩, ⟨(some p21), none, .pick (.t p16) (.t p20) (.c (.bool false))⟩] []) (.kill [p12, p13, p14, p15, p16, p17, p18, p19, p20] (.cond (.t p21) .skip (.exit 0)))) (.kill [p21] (.seq (.block 1 (.seq (.reg [⟨(some p22), none, .mov (.t p6)⟩, ⟨(some p23), none, .ld (some 4) (.t p7)⟩, ⟨(some p24), none, .call (.t p22) [(.t p23)]⟩, ⟨(some p8), none, .zero [(.int .i64 0), (.int .i64 0)]⟩, ⟨none, none, .st 2 (.t p8) (.t p24)⟩] []) (.kill [p22, p23, p24] (.seq (.reg [⟨(some p25), none, .mov (.t p5)⟩, ⟨(some p26), none, .fad 0 (.t p8)⟩, ⟨(some p27), none, .ld none (.t p26)⟩, ⟨(some p28), none, .fad 1 (.t p8)⟩, ⟨(some p29), none, .ld none (.t p28)⟩, ⟨(some p30), none, .build [(.int .i64 0), (.int .i64 0)] [(0, 1, (.t p27)), (1, 1, (.t p29))]⟩, ⟨(some p31), none, .bslice 1 2 [(.int .i64 0), (.int .i64 0)] [(0, 2, (.t p30))]⟩, ⟨(some p32), none, .app 2 (.t p25) (.t p31)⟩, ⟨(some p5), none, .mov (.t p32)⟩] []) (.kill [p25, p26, p27, p28, p29, p30, p31, p32] (.reg [⟨(some p33), none, .ld (some 2) (.t p8)⟩, ⟨(some p34), none, .fad 0 (.t p2)⟩, ⟨(some p35), none, .ld (some 4) (.t p7)⟩, ⟨(some p36), none, .call (.c (.func (.func 62) #[] #[])) [(.t p33), (.t p34), (.t p35)]⟩, ⟨none, none, .st 4 (.t p7) (.t p36)⟩] [])))))) (.kill [p8, p33, p34, p35, p36] (.seq (.reg [⟨(some p37), none, .ld (some 4) (.t p7)⟩] []) (.kill [p7] (.reg [⟨(some p7), none, .zero [(.int .i64 0), (.int .i64 0), (.int .i64 0), (.int .i64 0)]⟩, ⟨none, none, .st 4 (.t p7) (.t p37)⟩] []))))))))))) (.kill [p1, p2, p6, p7, p21] (.seq (.reg [⟨(some p38), none, .mov (.t p5)⟩, ⟨(some p4), none, .mov (.t p38)⟩] []) .ret)))))))) }
def a56 : AFunc := { params := [p0, p1], init := i12, results := [.tmp p4], body := (.seq (.reg [⟨(some p4), none, .mov (.c (.int .i64 0))⟩] []) (.kill [p4] (.seq (.block 0 (.loop (.seq (.seq (.reg [⟨(some p5), none, .mov (.t p1)⟩, ⟨(some p6), none, .bin .gtr (.t p5) (.c (.int .i64 0))⟩] []) (.kill [p5] (.cond (.t p6) .skip (.exit 0)))) (.kill [p6] (.block 1 (.reg [⟨(some p7), none, .mov (.t p1)⟩, ⟨(some p8), none, .mov (.t p0)⟩, ⟨(some p9), none, .mov (.t p1)⟩, ⟨(some p10), none, .bin .rem (.t p8) (.t p9)⟩, ⟨(some p0), none, .mov (.t p7)⟩, ⟨(some p1), none, .mov (.t p10)⟩] [])))))) (.kill [p1, p6] (.seq (.reg [⟨(some p11), none, .mov (.t p0)⟩, ⟨(some p4), none, .mov (.t p11)⟩] []) .ret))))) }
def a57 : AFunc := { params := [p0], init := i25, results := [.tmp p2], body := (.seq (.reg [⟨(some p2), none, .mov (.c (.int .i64 0))⟩] []) (.kill [p2] (.seq (.seq (.reg [⟨(some p5), none, .mov (.t p0)⟩, ⟨(some p6), none, .len 1 (.t p5)⟩, ⟨(some p7), none, .bin .lss (.t p6) (.c (.int .i64 1))⟩] []) (.kill [p5, p6] (.cond (.t p7) (.kill [p7] (.reg [⟨(some p8), none, .bad⟩, ⟨none, none, .bad⟩] [])) .skip))) (.kill [p7, p8] (.seq (.reg [⟨(some p9), none, .mov (.t p0)⟩, ⟨(some p10), none, .ias 1 (.t p9) (.c (.int .i64 0))⟩, ⟨(some p11), none, .ld none (.t p10)⟩, ⟨(some p3), none, .mov (.t p11)⟩] []) (.kill [p9, p10, p11] (.seq (.seq (.reg [⟨(some p4), none, .mov (.c (.int .i64 1))⟩] []) (.block 0 (.loop (.seq (.seq (.reg [⟨(some p12), none, .mov (.t p4)⟩, ⟨(some p13), none, .mov (.t p0)⟩, ⟨(some p14), none, .len 1 (.t p13)⟩, ⟨(some p15), none, .bin .lss (.t p12) (.t p14)⟩] []) (.kill [p12, p13, p14] (.cond (.t p15) .skip (.exit 0)))) (.kill [p15] (.seq (.block 1 (.reg [⟨(some p18), none, .mov (.t p3)⟩, ⟨(some p19), none, .mov (.t p0)⟩, ⟨(some p20), none, .mov (.t p4)⟩, ⟨(some p21), none, .ias 1 (.t p19) (.t p20)⟩, ⟨(some p22), none, .ld none (.t p21)⟩, ⟨(some p23), none, .max (.t p18) [(.t p22)]⟩, ⟨(some p3), none, .mov (.t p23)⟩] [])) (.kill [p18, p19, p20, p21, p22, p23] (.reg [⟨(some p16), none, .mov (.t p4)⟩, ⟨(some p17), none, .bin .add (.t p16) (.c (.int .i64 1))⟩, ⟨(some p4), none, .mov (.t p17)⟩] [])))))))) (.kill [p0, p4, p15] (.seq (.reg [⟨(some p24), none, .mov (.t p3)⟩, ⟨(some p2), none, .mov (.t p24)⟩] []) .ret))))))))) }
def a58 : AFunc := { params := [p0], init := i20, results := [.tmp p2], body := (.seq (.reg [⟨(some p2), none, .mov (.c (.int .i64 0))⟩] []) (.kill [p2] (.seq (.reg [⟨(some p3), none, .mov (.c (.int .i64 0))⟩] []) (.seq (.seq (.reg [⟨(some p6), none, .mov (.t p0)⟩, ⟨(some p7), none, .len 1 (.t p6)⟩, ⟨(some p8), none, .mov (.c (.int .i64 0))⟩] []) (.kill [p0] (.block 0 (.loop (.seq (.reg [⟨(some p9), none, .bin .lss (.t p8) (.t p7)⟩] []) (.seq (.cond (.t p9) .skip (.exit 0)) (.kill [p9] (.seq (.block 1 (.seq (.reg [⟨(some p10), none, .ias 1 (.t p6) (.t p8)⟩, ⟨(some p11), none, .ld none (.t p10)⟩, ⟨(some p5), none, .mov (.t p11)⟩] []) (.kill [p10, p11] (.block 2 (.loop (.seq (.seq (.reg [⟨(some p12), none, .mov (.t p5)⟩, ⟨(some p13), none, .bin .neq (.t p12) (.c (.int .i64 0))⟩] []) (.kill [p12] (.cond (.t p13) .skip (.exit 2)))) (.kill [p13] (.block 3 (.reg [⟨(some p14), none, .mov (.t p5)⟩, ⟨(some p15), none, .mov (.t p3)⟩, ⟨(some p16), none, .mov (.t p5)⟩, ⟨(some p17), none, .bin .rem (.t p15) (.t p16)⟩, ⟨(some p3), none, .mov (.t p14)⟩, ⟨(some p5), none, .mov (.t p17)⟩] []))))))))) (.kill [p5, p13] (.reg [⟨(some p18), none, .bin .add (.t p8) (.c (.int .i64 1))⟩, ⟨(some p8), none, .mov (.t p18)⟩] [])))))))))) (.kill [p6, p7, p8, p9, p13] (.seq (.reg [⟨(some p19), none, .mov (.t p3)⟩, ⟨(some p2), none, .mov (.t p19)⟩] []) .ret)))))) }
def a59 : AFunc := { params := [p0, p1], init := i34, results := [.tmp p4, .tmp p5, .tmp p6], body := (.seq (.reg [⟨(some p3), none, .box (.t p1)⟩, ⟨(some p4), none, .mov (.c (.slice none 0 0))⟩, ⟨(some p5), none, .mov (.c (.bool false))⟩, ⟨(some p6), none, .mov (.c (.int .i64 0))⟩] []) (.kill [p1, p4, p5, p6] (.seq (.reg [⟨(some p12), none, .mov (.t p0)⟩, ⟨(some p13), none, .call (.c (.func (.func 46) #[] #[])) [(.t p12), (.c (.bool false)), (.c (.slice none 0 0))]⟩, ⟨(some p11), none, .mov (.t p13)⟩, ⟨(some p14), none, .ext 0 (.t p11)⟩, ⟨(some p15), none, .ext 1 (.t p11)⟩, ⟨(some p7), none, .zero [(.pointer none)]⟩, ⟨none, none, .st 1 (.t p7) (.t p14)⟩, ⟨(some p8), none, .mov (.t p15)⟩] []) (.kill [p0, p11, p12, p13, p14, p15] (.seq (.seq (.reg [⟨(some p16), none, .mov (.t p8)⟩, ⟨(some p17), none, .bin .neq (.t p16) (.c (.int .i64 0))⟩] []) (.kill [p16] (.cond (.t p17) (.kill [p17] (.seq (.reg [⟨(some p18), none, .mov (.t p8)⟩, ⟨(some p4), none, .mov (.c (.slice none 0 0))⟩, ⟨(some p5), none, .mov (.c (.bool false))⟩, ⟨(some p6), none, .mov (.t p18)⟩] []) .ret)) .skip))) (.kill [p17] (.seq (.seq (.reg [⟨(some p19), none, .ld none (.t p3)⟩, ⟨(some p20), none, .bin .lss (.t p19) (.c (.int .i64 0))⟩, ⟨(some p21), none, .mov (.t p20)⟩, ⟨(some p22), (some (p21, false)), .ld none (.t p3)⟩, ⟨(some p23), (some (p21, false)), .bin .gtr (.t p22) (.c (.int .i64 12))⟩, ⟨(some p24), none, .pick (.t p21) (.c (.bool true)) (.t p23)⟩] []) (.kill [p19, p20, p21, p22, p23] (.cond (.t p24) (.kill [p24] (.seq (.reg [⟨(some p4), none, .mov (.c (.slice none 0 0))⟩, ⟨(some p5), none, .mov (.c (.bool false))⟩, ⟨(some p6), none, .mov (.c (.int .i64 1))⟩] []) .ret)) .skip))) (.kill [p24] (.seq (.reg [⟨(some p26), none, .ld none (.t p7)⟩, ⟨(some p27), none, .build [(.int .i64 0), (.int .i64 0), (.int .i64 0), (.int .i64 0)] []⟩, ⟨(some p28), none, .clos (.func 69) [] [(.t p7), (.t p3)]⟩, ⟨(some p29), none, .call (.c (.func (.func 51) #[] #[])) [(.t p26), (.t p27), (.t p28)]⟩, ⟨(some p25), none, .mov (.t p29)⟩, ⟨(some p30), none, .ext 0 (.t p25)⟩, ⟨(some p31), none, .ext 1 (.t p25)⟩, ⟨(some p9), none, .mov (.t p30)⟩, ⟨(some p10), none, .mov (.t p31)⟩] []) (.kill [p3, p7, p25, p26, p27, p28, p29, p30, p31] (.seq (.reg [⟨(some p32), none, .mov (.t p9)⟩, ⟨(some p33), none, .mov (.t p10)⟩, ⟨(some p4), none, .mov (.t p32)⟩, ⟨(some p5), none, .mov (.t p33)⟩, ⟨(some p6), none, .mov (.c (.int .i64 0))⟩] []) .ret))))))))))) }
def a61 : AFunc := { params := [p0, p1], init := i41, results := [.tmp p4], body := (.seq (.reg [⟨(some p2), none, .box (.t p0)⟩, ⟨(some p3), none, .box (.t p1)⟩, ⟨(some p4), none, .mov (.c (.bool false))⟩] []) (.kill [p0, p1, p4] (.seq (.reg [⟨(some p6), none, .clos (.func 72) [] [(.t p3)]⟩, ⟨(some p5), none, .mov (.t p6)⟩] []) (.kill [p6] (.seq (.reg [⟨(some p7), none, .mov (.t p5)⟩, ⟨(some p8), none, .fad 0 (.t p2)⟩, ⟨(some p9), none, .ld none (.t p8)⟩, ⟨(some p10), none, .call (.t p7) [(.t p9)]⟩, ⟨(some p11), none, .mov (.t p10)⟩, ⟨(some p12), (some (p11, true)), .mov (.t p5)⟩, ⟨(some p13), (some (p11, true)), .fad 1 (.t p2)⟩, ⟨(some p14), (some (p11, true)), .ld none (.t p13)⟩, ⟨(some p15), (some (p11, true)), .call (.t p12) [(.t p14)]⟩, ⟨(some p16), none, .pick (.t p11) (.t p15) (.c (.bool false))⟩, ⟨(some p17), none, .mov (.t p16)⟩, ⟨(some p18), (some (p17, true)), .fad 0 (.t p2)⟩, ⟨(some p19), (some (p17, true)), .ld none (.t p18)⟩, ⟨(some p20), (some (p17, true)), .fad 1 (.t p2)⟩, ⟨(some p21), (some (p17, true)), .ld none (.t p20)⟩, ⟨(some p22), (some (p17, true)), .bin .neq (.t p19) (.t p21)⟩, ⟨(some p23), none, .pick (.t p17) (.t p22) (.c (.bool false))⟩, ⟨(some p24), none, .mov (.t p23)⟩, ⟨(some p25), (some (p24, true)), .ld none (.t p3)⟩, ⟨(some p26), (some (p24, true)), .nilchk (.t p25)⟩, ⟨(some p27), (some (p24, true)), .fad 5 (.t p26)⟩, ⟨(some p28), (some (p24, true)), .ld none (.t p27)⟩, ⟨(some p29), (some (p24, true)), .un .not (.t p28)⟩, ⟨(some p30), (some (p24, true)), .mov (.t p29)⟩, ⟨(some p31), (some (p30, false)), .fad 0 (.t p2)⟩, ⟨(some p32), (some (p30, false)), .ld none (.t p31)⟩, ⟨(some p33), (some (p30, false)), .bin .neq (.t p32) (.c (.int .i64 (-1)))⟩, ⟨(some p34), (some (p30, false)), .mov (.t p33)⟩, ⟨(some p35), (some (p34, true)), .fad 1 (.t p2)⟩, ⟨(some p36), (some (p34, true)), .ld none (.t p35)⟩, ⟨(some p37), (some (p34, true)), .bin .neq (.t p36) (.c (.int .i64 (-1)))⟩, ⟨(some p38), (some (p30, false)), .pick (.t p34) (.t p37) (.c (.bool false))⟩, ⟨(some p39), (some (p24, true)), .pick (.t p30) (.c (.bool true)) (.t p38)⟩, ⟨(some p40), none, .pick (.t p24) (.t p39) (.c (.bool false))⟩, ⟨(some p4), none, .mov (.t p40)⟩] []) .ret))))) }
def a62 : AFunc := { params := [p0, p1, p2], init := i61, results := [.cell (some 4) p6], body := (.seq (.reg [⟨(some p3), none, .box (.t p0)⟩, ⟨(some p5), none, .box (.t p2)⟩, ⟨(some p6), none, .zero [(.int .i64 0), (.int .i64 0), (.int .i64 0), (.int .i64 0)]⟩] []) (.kill [p0, p2] (.seq (.block 0 (.seq (.reg [⟨(some p40), none, .fad 0 (.t p3)⟩, ⟨(some p41), none, .ld none (.t p40)⟩, ⟨(some p42), none, .bin .eql (.c (.int .i64 (-1))) (.t p41)⟩, ⟨(some p39), none, .mov (.t p42)⟩] []) (.kill [p40, p41, p42] (.cond (.t p39) (.kill [p39] (.reg [⟨(some p43), none, .fad 1 (.t p3)⟩, ⟨(some p44), none, .ld none (.t p43)⟩, ⟨(some p45), none, .mov (.t p1)⟩, ⟨(some p46), none, .fad 1 (.t p3)⟩, ⟨(some p47), none, .ld none (.t p46)⟩, ⟨(some p48), none, .nilchk (.t p45)⟩, ⟨(some p49), none, .fad 1 (.t p48)⟩, ⟨(some p50), none, .iad 4 1 (.t p49) (.t p47)⟩, ⟨(some p51), none, .ld none (.t p50)⟩, ⟨(some p52), none, .iad 4 1 (.t p5) (.t p44)⟩, ⟨none, none, .st 1 (.t p52) (.t p51)⟩] [])) (.kill [p39] (.seq (.reg [⟨(some p54), none, .fad 1 (.t p3)⟩, ⟨(some p55), none, .ld none (.t p54)⟩, ⟨(some p56), none, .bin .eql (.c (.int .i64 (-1))) (.t p55)⟩, ⟨(some p53), none, .mov (.t p56)⟩] []) (.kill [p54, p55, p56] (.cond (.t p53) (.kill [p53] (.reg [⟨(some p57), none, .fad 0 (.t p3)⟩, ⟨(some p58), none, .ld none (.t p57)⟩, ⟨(some p59), none, .iad 4 1 (.t p5) (.t p58)⟩, ⟨none, none, .st 1 (.t p59) (.c (.int .i64 0))⟩] [])) (.kill [p53] (.seq (.reg [⟨(some p8), none, .fad 0 (.t p3)⟩, ⟨(some p9), none, .ld none (.t p8)⟩, ⟨(some p10), none, .iad 4 1 (.t p5) (.t p9)⟩, ⟨(some p11), none, .ld none (.t p10)⟩, ⟨(some p12), none, .mov (.t p1)⟩, ⟨(some p13), none, .fad 1 (.t p3)⟩, ⟨(some p14), none, .ld none (.t p13)⟩, ⟨(some p15), none, .nilchk (.t p12)⟩, ⟨(some p16), none, .fad 1 (.t p15)⟩, ⟨(some p17), none, .iad 4 1 (.t p16) (.t p14)⟩, ⟨(some p18), none, .ld none (.t p17)⟩, ⟨(some p19), none, .fad 1 (.t p3)⟩, ⟨(some p20), none, .ld none (.t p19)⟩, ⟨(some p21), none, .iad 4 1 (.t p5) (.t p20)⟩, ⟨(some p22), none, .ld none (.t p21)⟩, ⟨(some p23), none, .bin .sub (.t p18) (.t p22)⟩, ⟨(some p24), none, .min (.t p11) [(.t p23)]⟩, ⟨(some p7), none, .mov (.t p24)⟩] []) (.kill [p1, p8, p9, p10, p11, p12, p13, p14, p15, p16, p17, p18, p19, p20, p21, p22, p23, p24] (.seq (.reg [⟨(some p25), none, .fad 0 (.t p3)⟩, ⟨(some p26), none, .ld none (.t p25)⟩, ⟨(some p27), none, .iad 4 1 (.t p5) (.t p26)⟩, ⟨(some p28), none, .ld none (.t p27)⟩, ⟨(some p29), none, .mov (.t p7)⟩, ⟨(some p30), none, .bin .sub (.t p28) (.t p29)⟩, ⟨(some p31), none, .iad 4 1 (.t p5) (.t p26)⟩, ⟨none, none, .st 1 (.t p31) (.t p30)⟩] []) (.kill [p25, p26, p27, p28, p29, p30, p31] (.reg [⟨(some p32), none, .fad 1 (.t p3)⟩, ⟨(some p33), none, .ld none (.t p32)⟩, ⟨(some p34), none, .iad 4 1 (.t p5) (.t p33)⟩, ⟨(some p35), none, .ld none (.t p34)⟩, ⟨(some p36), none, .mov (.t p7)⟩, ⟨(some p37), none, .bin .add (.t p35) (.t p36)⟩, ⟨(some p38), none, .iad 4 1 (.t p5) (.t p33)⟩, ⟨none, none, .st 1 (.t p38) (.t p37)⟩] [])))))))))))))) (.kill [p1, p3, p7, p32, p33, p34, p35, p36, p37, p38, p39, p43, p44, p45, p46, p47, p48, p49, p50, p51, p52, p53, p57, p58, p59] (.seq (.reg [⟨(some p60), none, .ld (some 4) (.t p5)⟩, ⟨none, none, .st 4 (.t p6) (.t p60)⟩] []) .ret))))) }
def a64 : AFunc := { params := [p0], init := i25, results := [.tmp p2], body := (.seq (.reg [⟨(some p2), none, .mov (.c (.int .i64 0))⟩] []) (.kill [p2] (.seq (.seq (.reg [⟨(some p5), none, .mov (.t p0)⟩, ⟨(some p6), none, .len 1 (.t p5)⟩, ⟨(some p7), none, .bin .lss (.t p6) (.c (.int .i64 1))⟩] []) (.kill [p5, p6] (.cond (.t p7) (.kill [p7] (.reg [⟨(some p8), none, .bad⟩, ⟨none, none, .bad⟩] [])) .skip))) (.kill [p7, p8] (.seq (.reg [⟨(some p9), none, .mov (.t p0)⟩, ⟨(some p10), none, .ias 1 (.t p9) (.c (.int .i64 0))⟩, ⟨(some p11), none, .ld none (.t p10)⟩, ⟨(some p3), none, .mov (.t p11)⟩] []) (.kill [p9, p10, p11] (.seq (.seq (.reg [⟨(some p4), none, .mov (.c (.int .i64 1))⟩] []) (.block 0 (.loop (.seq (.seq (.reg [⟨(some p12), none, .mov (.t p4)⟩, ⟨(some p13), none, .mov (.t p0)⟩, ⟨(some p14), none, .len 1 (.t p13)⟩, ⟨(some p15), none, .bin .lss (.t p12) (.t p14)⟩] []) (.kill [p12, p13, p14] (.cond (.t p15) .skip (.exit 0)))) (.kill [p15] (.seq (.block 1 (.reg [⟨(some p18), none, .mov (.t p3)⟩, ⟨(some p19), none, .mov (.t p0)⟩, ⟨(some p20), none, .mov (.t p4)⟩, ⟨(some p21), none, .ias 1 (.t p19) (.t p20)⟩, ⟨(some p22), none, .ld none (.t p21)⟩, ⟨(some p23), none, .min (.t p18) [(.t p22)]⟩, ⟨(some p3), none, .mov (.t p23)⟩] [])) (.kill [p18, p19, p20, p21, p22, p23] (.reg [⟨(some p16), none, .mov (.t p4)⟩, ⟨(some p17), none, .bin .add (.t p16) (.c (.int .i64 1))⟩, ⟨(some p4), none, .mov (.t p17)⟩] [])))))))) (.kill [p0, p4, p15] (.seq (.reg [⟨(some p24), none, .mov (.t p3)⟩, ⟨(some p2), none, .mov (.t p24)⟩] []) .ret))))))))) }
def a65 : AFunc := { params := [p0, p1, p2], init := i45, results := [], body := (.seq (.reg [⟨(some p4), none, .mov (.c (.int .i64 (-1)))⟩] []) (.block 0 (.loop (.seq (.seq (.reg [⟨(some p8), none, .mov (.t p4)⟩, ⟨(some p9), none, .ld none (.t p1)⟩, ⟨(some p10), none, .nilchk (.t p9)⟩, ⟨(some p11), none, .fad 0 (.t p10)⟩, ⟨(some p12), none, .ld none (.t p11)⟩, ⟨(some p13), none, .bin .lss (.t p8) (.t p12)⟩] []) (.kill [p8, p9, p10, p11, p12] (.cond (.t p13) .skip (.exit 0)))) (.kill [p13] (.seq (.block 1 (.seq (.reg [⟨(some p5), none, .mov (.c (.int .i64 (-1)))⟩] []) (.block 2 (.loop (.seq (.seq (.reg [⟨(some p16), none, .mov (.t p5)⟩, ⟨(some p17), none, .ld none (.t p1)⟩, ⟨(some p18), none, .nilchk (.t p17)⟩, ⟨(some p19), none, .fad 0 (.t p18)⟩, ⟨(some p20), none, .ld none (.t p19)⟩, ⟨(some p21), none, .bin .lss (.t p16) (.t p20)⟩] []) (.kill [p16, p17, p18, p19, p20] (.cond (.t p21) .skip (.exit 2)))) (.kill [p21] (.seq (.block 3 (.seq (.reg [⟨(some p24), none, .mov (.t p4)⟩, ⟨(some p25), none, .mov (.t p5)⟩, ⟨(some p26), none, .build [(.int .i64 0), (.int .i64 0)] [(0, 1, (.t p24)), (1, 1, (.t p25))]⟩, ⟨(some p6), none, .zero [(.int .i64 0), (.int .i64 0)]⟩, ⟨none, none, .st 2 (.t p6) (.t p26)⟩] []) (.kill [p24, p25, p26] (.seq (.seq (.reg [⟨(some p27), none, .ld (some 2) (.t p6)⟩, ⟨(some p28), none, .ld none (.t p1)⟩, ⟨(some p29), none, .call (.c (.func (.func 61) #[] #[])) [(.t p27), (.t p28)]⟩, ⟨(some p30), none, .un .not (.t p29)⟩] []) (.kill [p27, p28, p29] (.cond (.t p30) (.exit 3) .skip))) (.kill [p30] (.seq (.reg [⟨(some p31), none, .ld (some 2) (.t p6)⟩, ⟨(some p32), none, .ld none (.t p1)⟩, ⟨(some p33), none, .ld (some 4) (.t p2)⟩, ⟨(some p34), none, .call (.c (.func (.func 62) #[] #[])) [(.t p31), (.t p32), (.t p33)]⟩, ⟨(some p7), none, .zero [(.int .i64 0), (.int .i64 0), (.int .i64 0), (.int .i64 0)]⟩, ⟨none, none, .st 4 (.t p7) (.t p34)⟩] []) (.kill [p31, p32, p33, p34] (.seq (.reg [⟨(some p35), none, .ld (some 4) (.t p7)⟩, ⟨(some p36), none, .ld (some 4) (.t p2)⟩, ⟨(some p37), none, .eqs (.cells [.int, .int, .int, .int]) true (.t p35) (.t p36)⟩, ⟨(some p38), none, .mov (.t p37)⟩, ⟨(some p39), (some (p38, true)), .mov (.t p0)⟩, ⟨(some p40), (some (p38, true)), .ld (some 2) (.t p6)⟩, ⟨(some p41), (some (p38, true)), .ld (some 4) (.t p7)⟩, ⟨(some p42), (some (p38, true)), .call (.t p39) [(.t p40), (.t p41)]⟩, ⟨(some p43), (some (p38, true)), .un .not (.t p42)⟩, ⟨(some p44), none, .pick (.t p38) (.t p43) (.c (.bool false))⟩] []) (.kill [p6, p7, p35, p36, p37, p38, p39, p40, p41, p42, p43] (.cond (.t p44) .ret .skip)))))))))) (.kill [p44] (.reg [⟨(some p22), none, .mov (.t p5)⟩, ⟨(some p23), none, .bin .add (.t p22) (.c (.int .i64 1))⟩, ⟨(some p5), none, .mov (.t p23)⟩] []))))))))) (.kill [p5, p21, p30] (.reg [⟨(some p14), none, .mov (.t p4)⟩, ⟨(some p15), none, .bin .add (.t p14) (.c (.int .i64 1))⟩, ⟨(some p4), none, .mov (.t p15)⟩] [])))))))) }
def a66 : AFunc := { params := [p0, p1, p2], init := i66, results := [.tmp p6, .cell (some 4) p7, .tmp p8], body := (.seq (.reg [⟨(some p4), none, .box (.t p1)⟩, ⟨(some p6), none, .mov (.c (.map none))⟩, ⟨(some p7), none, .zero [(.int .i64 0), (.int .i64 0), (.int .i64 0), (.int .i64 0)]⟩, ⟨(some p8), none, .mov (.c (.bool false))⟩] []) (.kill [p1, p6, p8] (.kill [] (.seq (.reg [⟨(some p18), none, .mkmap⟩, ⟨(some p19), none, .ld (some 4) (.t p4)⟩, ⟨(some p20), none, .build [(.int .i64 0), (.int .i64 0), (.int .i64 0), (.int .i64 0), (.int .i64 0), (.int .i64 0), (.int .i64 0)] []⟩, ⟨none, none, .mset [.int, .int, .int, .int] (.t p18) (.t p19) (.t p20)⟩, ⟨(some p21), none, .mov (.t p18)⟩, ⟨(some p9), none, .zero [(.map none)]⟩, ⟨none, none, .st 1 (.t p9) (.t p21)⟩] []) (.kill [p18, p19, p20, p21] (.seq (.reg [⟨(some p22), none, .ld (some 4) (.t p4)⟩, ⟨(some p23), none, .bslice 1 4 [(.int .i64 0), (.int .i64 0), (.int .i64 0), (.int .i64 0)] [(0, 4, (.t p22))]⟩, ⟨(some p10), none, .zero [(.slice none 0 0)]⟩, ⟨none, none, .st 1 (.t p10) (.t p23)⟩] []) (.kill [p4, p22, p23] (.seq (.reg [⟨(some p11), none, .zero [(.int .i64 0), (.int .i64 0), (.int .i64 0), (.int .i64 0)]⟩] []) (.seq (.reg [⟨(some p12), none, .mov (.c (.bool false))⟩] []) (.seq .skip (.seq (.block 0 (.loop (.seq (.seq (.reg [⟨(some p24), none, .ld none (.t p10)⟩, ⟨(some p25), none, .len 1 (.t p24)⟩, ⟨(some p26), none, .bin .gtr (.t p25) (.c (.int .i64 0))⟩] []) (.kill [p24, p25] (.cond (.t p26) .skip (.exit 0)))) (.kill [p26] (.block 1 (.seq (.reg [⟨(some p27), none, .ld none (.t p10)⟩, ⟨(some p28), none, .ias 4 (.t p27) (.c (.int .i64 0))⟩, ⟨(some p29), none, .ld (some 4) (.t p28)⟩, ⟨(some p13), none, .zero [(.int .i64 0), (.int .i64 0), (.int .i64 0), (.int .i64 0)]⟩, ⟨none, none, .st 4 (.t p13) (.t p29)⟩] []) (.kill [p27, p28, p29] (.seq (.reg [⟨(some p30), none, .ld none (.t p10)⟩, ⟨(some p31), none, .slsl 4 (.t p30) (some (.c (.int .i64 1))) none none⟩, ⟨none, none, .st 1 (.t p10) (.t p31)⟩] []) (.kill [p30, p31] (.seq (.seq (.reg [⟨(some p32), none, .mov (.t p2)⟩, ⟨(some p33), none, .ld (some 4) (.t p13)⟩, ⟨(some p34), none, .call (.t p32) [(.t p33)]⟩] []) (.kill [p32, p33] (.cond (.t p34) (.kill [p34] (.seq (.reg [⟨(some p35), none, .ld (some 4) (.t p13)⟩, ⟨none, none, .st 4 (.t p11) (.t p35)⟩, ⟨(some p12), none, .mov (.c (.bool true))⟩] []) (.kill [p13, p35] (.exit 0)))) .skip))) (.kill [p34] (.seq (.reg [⟨(some p36), none, .mov (.t p0)⟩, ⟨(some p37), none, .ld (some 4) (.t p13)⟩, ⟨(some p38), none, .call (.c (.func (.func 47) #[] #[])) [(.t p36), (.t p37)]⟩] []) (.kill [p36, p37] (.block 2 (.rangeF (.t p38) [p39, p40] (.seq (.reg [⟨(some p14), none, .zero [(.int .i64 0), (.int .i64 0)]⟩, ⟨none, none, .st 2 (.t p14) (.t p39)⟩] []) (.reg [⟨(some p15), none, .zero [(.int .i64 0), (.int .i64 0), (.int .i64 0), (.int .i64 0)]⟩, ⟨none, none, .st 4 (.t p15) (.t p40)⟩] [])) (.block 3 (.seq (.reg [⟨(some p42), none, .ld none (.t p9)⟩, ⟨(some p43), none, .ld (some 4) (.t p15)⟩, ⟨(some p44), none, .look true [.int, .int, .int, .int] (.agg #[(.int .i64 0), (.int .i64 0), (.int .i64 0), (.int .i64 0), (.int .i64 0), (.int .i64 0), (.int .i64 0)]) (.t p42) (.t p43)⟩, ⟨(some p41), none, .mov (.t p44)⟩, ⟨(some p45), none, .ext 0 (.t p41)⟩, ⟨(some p46), none, .ext 1 (.t p41)⟩, ⟨(some p16), none, .zero [(.int .i64 0), (.int .i64 0), (.int .i64 0), (.int .i64 0), (.int .i64 0), (.int .i64 0), (.int .i64 0)]⟩, ⟨none, none, .st 7 (.t p16) (.t p45)⟩, ⟨(some p17), none, .mov (.t p46)⟩] []) (.seq (.reg [⟨(some p47), none, .mov (.t p17)⟩, ⟨(some p48), none, .un .not (.t p47)⟩] []) (.cond (.t p48) (.seq (.reg [⟨(some p49), none, .ld none (.t p9)⟩, ⟨(some p50), none, .ld (some 4) (.t p15)⟩, ⟨(some p51), none, .ld (some 4) (.t p13)⟩, ⟨(some p52), none, .ld (some 2) (.t p14)⟩, ⟨(some p53), none, .ld none (.t p9)⟩, ⟨(some p54), none, .ld (some 4) (.t p13)⟩, ⟨(some p55), none, .look false [.int, .int, .int, .int] (.agg #[(.int .i64 0), (.int .i64 0), (.int .i64 0), (.int .i64 0), (.int .i64 0), (.int .i64 0), (.int .i64 0)]) (.t p53) (.t p54)⟩, ⟨(some p56), none, .fld none 6 (.t p55)⟩, ⟨(some p57), none, .bin .add (.t p56) (.c (.int .i64 1))⟩, ⟨(some p58), none, .build [(.int .i64 0), (.int .i64 0), (.int .i64 0), (.int .i64 0), (.int .i64 0), (.int .i64 0), (.int .i64 0)] [(0, 4, (.t p51)), (4, 2, (.t p52)), (6, 1, (.t p57))]⟩, ⟨none, none, .mset [.int, .int, .int, .int] (.t p49) (.t p50) (.t p58)⟩] []) (.reg [⟨(some p59), none, .ld none (.t p10)⟩, ⟨(some p60), none, .ld (some 4) (.t p15)⟩, ⟨(some p61), none, .bslice 1 4 [(.int .i64 0), (.int .i64 0), (.int .i64 0), (.int .i64 0)] [(0, 4, (.t p60))]⟩, ⟨(some p62), none, .app 4 (.t p59) (.t p61)⟩, ⟨none, none, .st 1 (.t p10) (.t p62)⟩] [])) .skip))))))))))))))))))) (.kill [p0, p2, p10, p14, p15, p16, p17, p26, p39, p40, p41, p42, p43, p44, p45, p46, p47, p48, p49, p50, p51, p52, p53, p54, p55, p56, p57, p58, p59, p60, p61, p62] (.seq (.reg [⟨(some p63), none, .ld none (.t p9)⟩, ⟨(some p64), none, .ld (some 4) (.t p11)⟩, ⟨(some p65), none, .mov (.t p12)⟩, ⟨(some p6), none, .mov (.t p63)⟩, ⟨none, none, .st 4 (.t p7) (.t p64)⟩, ⟨(some p8), none, .mov (.t p65)⟩] []) .ret))))))))))))) }
def a67 : AFunc := { params := [p0], init := i28, results := [], body := (.seq (.reg [⟨(some p4), none, .mov (.t p0)⟩, ⟨(some p5), none, .len 1 (.t p4)⟩, ⟨(some p6), none, .bin .sub (.t p5) (.c (.int .i64 1))⟩, ⟨(some p2), none, .mov (.c (.int .i64 0))⟩, ⟨(some p3), none, .mov (.t p6)⟩] []) (.kill [p4, p5, p6] (.block 0 (.loop (.seq (.seq (.reg [⟨(some p7), none, .mov (.t p2)⟩, ⟨(some p8), none, .mov (.t p3)⟩, ⟨(some p9), none, .bin .lss (.t p7) (.t p8)⟩] []) (.kill [p7, p8] (.cond (.t p9) .skip (.exit 0)))) (.kill [p9] (.seq (.block 1 (.reg [⟨(some p14), none, .mov (.t p0)⟩, ⟨(some p15), none, .mov (.t p2)⟩, ⟨(some p16), none, .mov (.t p0)⟩, ⟨(some p17), none, .mov (.t p3)⟩, ⟨(some p18), none, .mov (.t p0)⟩, ⟨(some p19), none, .mov (.t p3)⟩, ⟨(some p20), none, .ias 2 (.t p18) (.t p19)⟩, ⟨(some p21), none, .ld (some 2) (.t p20)⟩, ⟨(some p22), none, .mov (.t p0)⟩, ⟨(some p23), none, .mov (.t p2)⟩, ⟨(some p24), none, .ias 2 (.t p22) (.t p23)⟩, ⟨(some p25), none, .ld (some 2) (.t p24)⟩, ⟨(some p26), none, .ias 2 (.t p14) (.t p15)⟩, ⟨none, none, .st 2 (.t p26) (.t p21)⟩, ⟨(some p27), none, .ias 2 (.t p16) (.t p17)⟩, ⟨none, none, .st 2 (.t p27) (.t p25)⟩] [])) (.kill [p14, p15, p16, p17, p18, p19, p20, p21, p22, p23, p24, p25, p26, p27] (.reg [⟨(some p10), none, .mov (.t p2)⟩, ⟨(some p11), none, .bin .add (.t p10) (.c (.int .i64 1))⟩, ⟨(some p12), none, .mov (.t p3)⟩, ⟨(some p13), none, .bin .sub (.t p12) (.c (.int .i64 1))⟩, ⟨(some p2), none, .mov (.t p11)⟩, ⟨(some p3), none, .mov (.t p13)⟩] []))))))))) }
def a68 : AFunc := { params := [p0, p1], init := i34, results := [.cell (some 2) p4], body := (.seq (.reg [⟨(some p2), none, .box (.t p0)⟩, ⟨(some p3), none, .box (.t p1)⟩, ⟨(some p4), none, .zero [(.int .i64 0), (.int .i64 0)]⟩] []) (.kill [p0, p1] (.seq (.reg [⟨(some p6), none, .fad 6 (.t p2)⟩, ⟨(some p7), none, .ld none (.t p6)⟩, ⟨(some p8), none, .bin .sub (.c (.int .i64 1)) (.t p7)⟩, ⟨(some p5), none, .mov (.t p8)⟩] []) (.kill [p6, p7, p8] (.seq (.block 0 (.seq (.reg [⟨(some p10), none, .mov (.t p5)⟩, ⟨(some p11), none, .iad 4 1 (.t p3) (.t p10)⟩, ⟨(some p12), none, .ld none (.t p11)⟩, ⟨(some p13), none, .mov (.t p5)⟩, ⟨(some p14), none, .fad 0 (.t p2)⟩, ⟨(some p15), none, .fad 1 (.t p14)⟩, ⟨(some p16), none, .iad 4 1 (.t p15) (.t p13)⟩, ⟨(some p17), none, .ld none (.t p16)⟩, ⟨(some p18), none, .bin .eql (.t p12) (.t p17)⟩, ⟨(some p9), none, .mov (.t p18)⟩] []) (.kill [p10, p11, p12, p13, p14, p15, p16, p17, p18] (.cond (.t p9) (.kill [p9] (.seq (.reg [⟨(some p19), none, .mov (.t p5)⟩, ⟨(some p20), none, .build [(.int .i64 0), (.int .i64 0)] [(0, 1, (.t p19)), (1, 1, (.c (.int .i64 (-1))))]⟩, ⟨none, none, .st 2 (.t p4) (.t p20)⟩] []) .ret)) (.kill [p9] (.seq (.reg [⟨(some p22), none, .fad 6 (.t p2)⟩, ⟨(some p23), none, .ld none (.t p22)⟩, ⟨(some p24), none, .iad 4 1 (.t p3) (.t p23)⟩, ⟨(some p25), none, .ld none (.t p24)⟩, ⟨(some p26), none, .bin .eql (.t p25) (.c (.int .i64 0))⟩, ⟨(some p21), none, .mov (.t p26)⟩] []) (.kill [p3, p22, p23, p24, p25, p26] (.cond (.t p21) (.kill [p21] (.seq (.reg [⟨(some p27), none, .fad 6 (.t p2)⟩, ⟨(some p28), none, .ld none (.t p27)⟩, ⟨(some p29), none, .build [(.int .i64 0), (.int .i64 0)] [(0, 1, (.c (.int .i64 (-1)))), (1, 1, (.t p28))]⟩, ⟨none, none, .st 2 (.t p4) (.t p29)⟩] []) .ret)) .skip)))))))) (.kill [p9, p21] (.seq (.reg [⟨(some p30), none, .fad 6 (.t p2)⟩, ⟨(some p31), none, .ld none (.t p30)⟩, ⟨(some p32), none, .mov (.t p5)⟩, ⟨(some p33), none, .build [(.int .i64 0), (.int .i64 0)] [(0, 1, (.t p31)), (1, 1, (.t p32))]⟩, ⟨none, none, .st 2 (.t p4) (.t p33)⟩] []) .ret))))))) }
def a69 : AFunc := { params := [p0, p1, p2], init := i12, results := [.tmp p4], body := (.seq (.reg [⟨(some p3), none, .box (.t p0)⟩, ⟨(some p4), none, .mov (.c (.bool false))⟩] []) (.kill [p0, p4] (.seq (.reg [⟨(some p5), none, .ld none (.t p1)⟩, ⟨(some p6), none, .nilchk (.t p5)⟩, ⟨(some p7), none, .fad 0 (.t p6)⟩, ⟨(some p8), none, .ld none (.t p7)⟩, ⟨(some p9), none, .slarr 4 1 (.t p3) none (some (.t p8)) none⟩, ⟨(some p10), none, .ld none (.t p2)⟩, ⟨(some p11), none, .call (.c (.func (.func 70) #[] #[])) [(.t p9), (.t p10)]⟩, ⟨(some p4), none, .mov (.t p11)⟩] []) .ret))) }
def a70 : AFunc := { params := [p0, p1], init := i9, results := [.tmp p4], body := (.seq (.reg [⟨(some p4), none, .mov (.c (.bool false))⟩] []) (.kill [p4] (.seq (.reg [⟨(some p5), none, .mov (.t p0)⟩, ⟨(some p6), none, .mov (.t p1)⟩, ⟨(some p7), none, .call (.c (.func (.func 73) #[] #[])) [(.t p5), (.t p6)]⟩, ⟨(some p8), none, .bin .geq (.t p7) (.c (.int .i64 0))⟩, ⟨(some p4), none, .mov (.t p8)⟩] []) .ret))) }
def a72 : AFunc := { params := [p0, p1], init := i14, results := [.tmp p3], body := (.seq (.reg [⟨(some p3), none, .mov (.c (.bool false))⟩] []) (.kill [p3] (.seq (.reg [⟨(some p4), none, .mov (.t p0)⟩, ⟨(some p5), none, .bin .geq (.t p4) (.c (.int .i64 (-1)))⟩, ⟨(some p6), none, .mov (.t p5)⟩, ⟨(some p7), (some (p6, true)), .mov (.t p0)⟩, ⟨(some p8), (some (p6, true)), .ld none (.t p1)⟩, ⟨(some p9), (some (p6, true)), .nilchk (.t p8)⟩, ⟨(some p10), (some (p6, true)), .fad 0 (.t p9)⟩, ⟨(some p11), (some (p6, true)), .ld none (.t p10)⟩, ⟨(some p12), (some (p6, true)), .bin .lss (.t p7) (.t p11)⟩, ⟨(some p13), none, .pick (.t p6) (.t p12) (.c (.bool false))⟩, ⟨(some p3), none, .mov (.t p13)⟩] []) .ret))) }
def a73 : AFunc := { params := [p0, p1], init := i19, results := [.tmp p4], body := (.seq (.reg [⟨(some p4), none, .mov (.c (.int .i64 0))⟩] []) (.kill [p4] (.seq (.seq (.reg [⟨(some p6), none, .mov (.t p0)⟩, ⟨(some p7), none, .len 1 (.t p6)⟩, ⟨(some p8), none, .mov (.c (.int .i64 0))⟩] []) (.kill [p6] (.block 0 (.loop (.seq (.reg [⟨(some p9), none, .bin .lss (.t p8) (.t p7)⟩] []) (.seq (.cond (.t p9) .skip (.exit 0)) (.kill [p9] (.seq (.block 1 (.seq (.reg [⟨(some p10), none, .mov (.t p8)⟩, ⟨(some p5), none, .mov (.t p10)⟩] []) (.kill [p10] (.seq (.reg [⟨(some p11), none, .mov (.t p1)⟩, ⟨(some p12), none, .mov (.t p0)⟩, ⟨(some p13), none, .mov (.t p5)⟩, ⟨(some p14), none, .ias 1 (.t p12) (.t p13)⟩, ⟨(some p15), none, .ld none (.t p14)⟩, ⟨(some p16), none, .bin .eql (.t p11) (.t p15)⟩] []) (.kill [p11, p12, p13, p14, p15] (.cond (.t p16) (.kill [p16] (.seq (.reg [⟨(some p17), none, .mov (.t p5)⟩, ⟨(some p4), none, .mov (.t p17)⟩] []) .ret)) .skip)))))) (.kill [p16] (.reg [⟨(some p18), none, .bin .add (.t p8) (.c (.int .i64 1))⟩, ⟨(some p8), none, .mov (.t p18)⟩] [])))))))))) (.kill [p0, p1, p7, p8, p9] (.seq (.reg [⟨(some p4), none, .mov (.c (.int .i64 (-1)))⟩] []) .ret))))) }
def tbl : Tr AFunc := (.nd none (.nd none (.nd none (.nd none (.nd none (.nd (some a31) (.nd none .lf .lf) .lf) (.nd (some a47) .lf .lf)) (.nd none (.nd none (.nd none .lf .lf) .lf) (.nd (some a55) .lf .lf))) (.nd none (.nd none (.nd none (.nd (some a67) .lf .lf) .lf) (.nd (some a51) .lf .lf)) (.nd (some a27) (.nd (some a43) .lf .lf) (.nd (some a59) .lf .lf)))) (.nd (some a5) (.nd none (.nd none (.nd (some a33) (.nd (some a65) .lf .lf) .lf) (.nd (some a49) .lf .lf)) (.nd (some a25) (.nd none (.nd (some a73) .lf .lf) .lf) (.nd (some a57) .lf .lf))) (.nd none (.nd none (.nd none (.nd (some a69) .lf .lf) .lf) (.nd (some a53) .lf .lf)) (.nd (some a29) (.nd none .lf .lf) (.nd (some a61) .lf .lf))))) (.nd none (.nd none (.nd none (.nd none (.nd none (.nd (some a64) .lf .lf) .lf) (.nd (some a48) .lf .lf)) (.nd none (.nd none (.nd (some a72) .lf .lf) .lf) (.nd (some a56) .lf .lf))) (.nd none (.nd (some a20) (.nd (some a36) (.nd (some a68) .lf .lf) .lf) (.nd (some a52) .lf .lf)) (.nd (some a28) (.nd none .lf .lf) (.nd none .lf .lf)))) (.nd none (.nd none (.nd (some a18) (.nd none (.nd (some a66) .lf .lf) .lf) (.nd none .lf .lf)) (.nd (some a26) (.nd none .lf .lf) (.nd (some a58) .lf .lf))) (.nd none (.nd (some a22) (.nd none (.nd (some a70) .lf .lf) .lf) (.nd (some a54) .lf .lf)) (.nd (some a30) (.nd (some a46) .lf .lf) (.nd (some a62) .lf .lf))))))
end
end Go.Ab.Jug

namespace Go.Ab.Jug
set_option maxRecDepth 100000
open Go.Ab.V
end Go.Ab.Jug

namespace Go.Ab.Jug
set_option maxRecDepth 1000000
noncomputable section
def cfg0 : Cfg := { fn := fun f => Tr.get tbl f, orc := fun _ _ => none, pick := fun _ => 0 }
theorem fit : Tr.allB (fitB Go.Proofs.Try.prog) tbl (fun n => n) = true := by decide +kernel
theorem tab0 : TabOK Go.Proofs.Try.prog cfg0 := tabOK (t := tbl) (fun _ _ h => h) fit
theorem mixed : Go.Proofs.Try.prog.follows .mixedOrders = true := by decide +kernel
end
end Go.Ab.Jug

namespace Go.Ab.Jug
open Go.Ab.V
set_option maxRecDepth 100000
noncomputable section
def cfg : Cfg := withOrc cfg0 20 (.bool true)
end
theorem no_orc (f : Nat) (h : f ≠ 20) (l : List Value) : cfg.orc f l = none := by
  have : Nat.beq f 20 = false := by cases hb : Nat.beq f 20 with
    | false => rfl
    | true => exact absurd (Nat.eq_of_beq_eq_true hb) h
  show (bif Nat.beq f 20 && l.isEmpty then some (Value.bool true) else none) = none
  rw [this]; rfl

def maxL (a : List Int) : Int := a.foldl max (a.headD 0)
def minL (a : List Int) : Int := a.foldl min (a.headD 0)

def gcdL (a : List Int) : Nat := (a.map Int.toNat).foldl Nat.gcd 0
theorem gcdL_succ {a : List Int} {i : Nat} (h : i < a.length) : gcdL (a.take (i + 1)) = Nat.gcd (gcdL (a.take i)) a[i].toNat := by
  unfold gcdL; rw [take_map_succ h, List.foldl_append]; rfl
theorem gcd_step (x y : Nat) : Nat.gcd y (x % y) = Nat.gcd x y := by rw [Nat.gcd_comm y, ← Nat.gcd_rec, Nat.gcd_comm]
theorem divisor_ok (a : List Int) (hp : ∀ x ∈ a, 0 ≤ x) (hl : a.length ≤ 9223372036854775807) : VCall cfg 58 [sl1 a] [] [] (vi (gcdL a)) [] := by
  (refine VCall.mk (fn := a58) rfl rfl rfl ?_; simp only [a58, inV, mkB, nmsL, PT.set])
  (repeat (first | refine VC.seq ?_ | refine VC.block ?_ | refine VC.kill ?_ | refine VC.skip ?_ | refine VC.exit ?_ | refine VC.regA ?_ | refine VC.condT ?_ | refine VC.condF ?_))
  refine VC.loopG (fun (i : Nat) => ⟨inV [p3, p6, p7, p8] [vi (gcdL (a.take i)), sl1 a, vi a.length, vi i] .lf, .lf, [], none⟩) (fun n i => n = a.length - i ∧ i ≤ a.length) (x := 0) ?_ ⟨rfl, by omega⟩ ?_
  · (apply Go.Ab.V.G.weak; constructor <;> simp (config := {decide := true}) only [PT.Le, inV, mkB, PT.set, VSt.kill, VSt.adopt, VSt.alloc, PT.filt, PT.map, List.map_cons, List.map_nil, noref, norefB, deadB, deadV, nos, nm, nmL, nmB, nmE, Pa.eqb, cond_true, cond_false, Bool.not_true, Bool.not_false, Bool.and_true, Bool.true_and, nmL_vi, flV_len, flP_len, flV_nm, flV_ok, flV_pv, flP_map, drop_flP, drop_flV, putC_flV, eqV2, eqV3, bneT, bneF, decide_true, decide_false, frzL_vi, frzL_flV, nmE_ag, nmE_at, frzE_ag, frzE_at, ofAg_len, ofAt_len, atL_vi, nmL_map_p, frzL_map_p, okL_p, toPVs_p, repsZ, nmL_reps, putC_vi, get_flV0, get_flV1, Int.toNat_zero, Int.toNat_one, Int.reduceToNat, eqV_slice, eqV_ptr, eqV_func, nilS, nilP, nilF, nmL_append, true_or, or_true, and_self, true_and, and_true, Option.some.injEq, reduceCtorEq, false_or, or_false, VV.p.injEq, PV.at.injEq, Value.int.injEq, sl1, vi, bl1, vb, nilV]); rfl
  rintro n i ⟨hn, hi⟩
  simp only [inV, PT.set]
  (repeat (first | refine VC.seq ?_ | refine VC.block ?_ | refine VC.kill ?_ | refine VC.skip ?_ | refine VC.exit ?_ | refine VC.regA ?_ | refine VC.condT ?_ | refine VC.condF ?_))
  refine VC.condA ?_ ?_ <;> intro h <;> (simp only [decide_eq_true_eq, decide_eq_false_iff_not, bne_iff_ne, ne_eq, bne_eq_false_iff_eq, beq_iff_eq, beq_eq_false_iff_ne, Bool.not_eq_true', Bool.not_eq_false', Bool.and_eq_true, Bool.or_eq_true, Int.natCast_inj] at h)
  · have h : i < a.length := by omega
    have ha0 := hp _ (List.getElem_mem h)
    (repeat (first | refine VC.seq ?_ | refine VC.block ?_ | refine VC.kill ?_ | refine VC.skip ?_ | refine VC.exit ?_ | refine VC.regA ?_ | refine VC.condT ?_ | refine VC.condF ?_))
    refine VC.loopG (fun q : Nat × Nat => ⟨inV [p3, p5, p6, p7, p8] [vi q.1, vi q.2, sl1 a, vi a.length, vi i] .lf, .lf, [], none⟩) (fun n q => n = q.2 ∧ Nat.gcd q.1 q.2 = gcdL (a.take (i + 1))) (x := (gcdL (a.take i), a[i].toNat)) ?_ ⟨rfl, (gcdL_succ h).symm⟩ ?_
    · (apply Go.Ab.V.G.weak; constructor <;> simp (config := {decide := true}) only [PT.Le, inV, mkB, PT.set, VSt.kill, VSt.adopt, VSt.alloc, PT.filt, PT.map, List.map_cons, List.map_nil, noref, norefB, deadB, deadV, nos, nm, nmL, nmB, nmE, Pa.eqb, cond_true, cond_false, Bool.not_true, Bool.not_false, Bool.and_true, Bool.true_and, nmL_vi, flV_len, flP_len, flV_nm, flV_ok, flV_pv, flP_map, drop_flP, drop_flV, putC_flV, eqV2, eqV3, bneT, bneF, decide_true, decide_false, frzL_vi, frzL_flV, nmE_ag, nmE_at, frzE_ag, frzE_at, ofAg_len, ofAt_len, atL_vi, nmL_map_p, frzL_map_p, okL_p, toPVs_p, repsZ, nmL_reps, putC_vi, get_flV0, get_flV1, Int.toNat_zero, Int.toNat_one, Int.reduceToNat, eqV_slice, eqV_ptr, eqV_func, nilS, nilP, nilF, nmL_append, true_or, or_true, and_self, true_and, and_true, Option.some.injEq, reduceCtorEq, false_or, or_false, VV.p.injEq, PV.at.injEq, Value.int.injEq, sl1, vi, bl1, vb, nilV]); omega
    rintro n ⟨x, y⟩ ⟨hn2, he⟩
    simp only at hn2 he
    simp only [inV, PT.set]
    (repeat (first | refine VC.seq ?_ | refine VC.block ?_ | refine VC.kill ?_ | refine VC.skip ?_ | refine VC.exit ?_ | refine VC.regA ?_ | refine VC.condT ?_ | refine VC.condF ?_))
    refine VC.condA ?_ ?_ <;> intro h2 <;> (simp only [decide_eq_true_eq, decide_eq_false_iff_not, bne_iff_ne, ne_eq, bne_eq_false_iff_eq, beq_iff_eq, beq_eq_false_iff_ne, Bool.not_eq_true', Bool.not_eq_false', Bool.and_eq_true, Bool.or_eq_true, Int.natCast_inj] at h2)
    · (repeat (first | refine VC.seq ?_ | refine VC.block ?_ | refine VC.kill ?_ | refine VC.skip ?_ | refine VC.exit ?_ | refine VC.regA ?_ | refine VC.condT ?_ | refine VC.condF ?_))
      refine ⟨_, (y, x % y), ?_, ⟨rfl, (gcd_step x y).trans he⟩, ?_⟩
      · rw [hn2]; exact Nat.mod_lt _ (by omega)
      · (apply Go.Ab.V.G.weak; constructor <;> simp (config := {decide := true}) only [PT.Le, inV, mkB, PT.set, VSt.kill, VSt.adopt, VSt.alloc, PT.filt, PT.map, List.map_cons, List.map_nil, noref, norefB, deadB, deadV, nos, nm, nmL, nmB, nmE, Pa.eqb, cond_true, cond_false, Bool.not_true, Bool.not_false, Bool.and_true, Bool.true_and, nmL_vi, flV_len, flP_len, flV_nm, flV_ok, flV_pv, flP_map, drop_flP, drop_flV, putC_flV, eqV2, eqV3, bneT, bneF, decide_true, decide_false, frzL_vi, frzL_flV, nmE_ag, nmE_at, frzE_ag, frzE_at, ofAg_len, ofAt_len, atL_vi, nmL_map_p, frzL_map_p, okL_p, toPVs_p, repsZ, nmL_reps, putC_vi, get_flV0, get_flV1, Int.toNat_zero, Int.toNat_one, Int.reduceToNat, eqV_slice, eqV_ptr, eqV_func, nilS, nilP, nilF, nmL_append, true_or, or_true, and_self, true_and, and_true, Option.some.injEq, reduceCtorEq, false_or, or_false, VV.p.injEq, PV.at.injEq, Value.int.injEq, sl1, vi, bl1, vb, nilV]); omega
    · have hy0 : y = 0 := by omega
      subst hy0
      (repeat (first | refine VC.seq ?_ | refine VC.block ?_ | refine VC.kill ?_ | refine VC.skip ?_ | refine VC.exit ?_ | refine VC.regA ?_ | refine VC.condT ?_ | refine VC.condF ?_))
      refine ⟨_, i + 1, ?_, ⟨rfl, by omega⟩, ?_⟩
      · omega
      · (apply Go.Ab.V.G.weak; constructor <;> simp (config := {decide := true}) only [PT.Le, inV, mkB, PT.set, VSt.kill, VSt.adopt, VSt.alloc, PT.filt, PT.map, List.map_cons, List.map_nil, noref, norefB, deadB, deadV, nos, nm, nmL, nmB, nmE, Pa.eqb, cond_true, cond_false, Bool.not_true, Bool.not_false, Bool.and_true, Bool.true_and, nmL_vi, flV_len, flP_len, flV_nm, flV_ok, flV_pv, flP_map, drop_flP, drop_flV, putC_flV, eqV2, eqV3, bneT, bneF, decide_true, decide_false, frzL_vi, frzL_flV, nmE_ag, nmE_at, frzE_ag, frzE_at, ofAg_len, ofAt_len, atL_vi, nmL_map_p, frzL_map_p, okL_p, toPVs_p, repsZ, nmL_reps, putC_vi, get_flV0, get_flV1, Int.toNat_zero, Int.toNat_one, Int.reduceToNat, eqV_slice, eqV_ptr, eqV_func, nilS, nilP, nilF, nmL_append, true_or, or_true, and_self, true_and, and_true, Option.some.injEq, reduceCtorEq, false_or, or_false, VV.p.injEq, PV.at.injEq, Value.int.injEq, sl1, vi, bl1, vb, nilV]); simp only [Nat.gcd_zero_right] at he; omega
  · (repeat (first | refine VC.seq ?_ | refine VC.block ?_ | refine VC.kill ?_ | refine VC.skip ?_ | refine VC.exit ?_ | refine VC.regA ?_ | refine VC.condT ?_ | refine VC.condF ?_))
    refine VC.ret (Fin.A ?_)
    rw [List.take_of_length_le (by omega)]; rfl

def okJ (a : List Int) : Prop := 1 ≤ a.length ∧ a.length ≤ 4 ∧ 1 ≤ minL a ∧ maxL a ≤ 12
instance (a : List Int) : Decidable (okJ a) := by unfold okJ; infer_instance
end Go.Ab.Jug

namespace Go.Ab.Jug
open Go.Ab.V
set_option maxRecDepth 100000
end Go.Ab.Jug

namespace Go.Ab.Jug
open Go.Ab.V
set_option maxRecDepth 100000
def fillB (x f : List Int) : Bool := f.length == x.length && (f.zip x).all (fun q => decide (0 ≤ q.1) && decide (q.1 ≤ q.2))
theorem fillB_iff (x f : List Int) : fillB x f = true ↔ f.length = x.length ∧ ∀ (i : Nat) (h : i < f.length) (h' : i < x.length), 0 ≤ f[i] ∧ f[i] ≤ x[i] := by
  unfold fillB
  rw [Bool.and_eq_true, beq_iff_eq, List.all_eq_true]
  constructor
  · rintro ⟨h1, h2⟩
    refine ⟨h1, fun i h h' => ?_⟩
    have := h2 (f[i], x[i]) (by rw [← List.getElem_zip (h := by simp; omega)]; exact List.getElem_mem _)
    simpa using this
  · rintro ⟨h1, h2⟩
    refine ⟨h1, fun q hq => ?_⟩
    obtain ⟨i, hi, rfl⟩ := List.mem_iff_getElem.1 hq
    rw [List.length_zip] at hi
    have := h2 i (by omega) (by omega)
    simpa [List.getElem_zip] using this
end Go.Ab.Jug

namespace Go.Ab.Jug
open Go.Ab.V
set_option maxRecDepth 100000
def nilP : VV := .p (.at (.pointer none))
end Go.Ab.Jug

namespace Go.Ab.Jug
open Go.Ab.V
set_option maxRecDepth 100000
end Go.Ab.Jug

namespace Go.Ab.Jug
open Go.Ab.V
set_option maxRecDepth 100000
def inR (n : Nat) (i : Int) : Bool := decide (-1 ≤ i ∧ i < n)
section
variable {n : Nat} {q0 q1 q2 q3 : Int} {c : Bool} {a b : Int}
def ag2 (a b : Int) : VV := .agg [vi a, vi b]
end
end Go.Ab.Jug

namespace Go.Ab.Jug
open Go.Ab.V
set_option maxRecDepth 100000
def atQ (l : List Int) (i : Int) : Int := l.getD i.toNat 0
section
variable {n : Nat} {q0 q1 q2 q3 f0 f1 f2 f3 : Int} {c : Bool} {a b : Int}
end
end Go.Ab.Jug

namespace Go.Ab.Jug
open Go.Ab.V
set_option maxRecDepth 100000
end Go.Ab.Jug

namespace Go.Ab.Jug
open Go.Ab.V
set_option maxRecDepth 100000
section
variable {n : Nat} {q0 q1 q2 q3 f0 f1 f2 f3 : Int} {c : Bool}
end
end Go.Ab.Jug

namespace Go.Ab.Jug
open Go.Ab.V
set_option maxRecDepth 100000
section
variable {n : Nat} {q0 q1 q2 q3 f0 f1 f2 f3 : Int} {c : Bool}
end
end Go.Ab.Jug

namespace Go.Ab.Jug
open Go.Ab.V
set_option maxRecDepth 100000
end Go.Ab.Jug

namespace Go.Ab.Jug
open Go.Ab.V
set_option maxRecDepth 100000
theorem putC_map (l : List Int) (i : Nat) (v : Int) (h : i < l.length) : putC (l.map vi) i [vi v] = (l.set i v).map vi := by
  unfold putC
  rw [List.set_eq_take_append_cons_drop, if_pos h, List.map_append, List.map_cons, List.map_take, List.map_drop]
  rfl
/-- The reference's step. -/
def stepR (x f : List Int) (a b : Int) : List Int :=
  if a = -1 then f.set b.toNat (atQ x b) else if b = -1 then f.set a.toNat 0
  else (f.set a.toNat (atQ f a - min (atQ f a) (atQ x b - atQ f b))).set b.toNat (atQ f b + min (atQ f a) (atQ x b - atQ f b))
def isR (n : Nat) (a b : Int) : Bool := inR n a && inR n b && decide (a ≠ b)
end Go.Ab.Jug

namespace Go.Ab.Jug
open Go.Ab.V
set_option maxRecDepth 100000
end Go.Ab.Jug

namespace Go.Ab.Jug
end Go.Ab.Jug

namespace Go.Ab.Jug
open Go.Ab.V
set_option maxRecDepth 100000
end Go.Ab.Jug

namespace Go.Ab.Jug
open Go.Ab.V
set_option maxRecDepth 100000
def okR (x f : List Int) (c : Bool) (a b : Int) : Bool := !(c && (decide (a = -1) || decide (b = -1))) && isR x.length a b && !decide (f = stepR x f a b)
def itR (x f : List Int) (c : Bool) (a b : Int) : List (Int × Int) := if okR x f c a b = true then [(a, b)] else []
def rowR (x f : List Int) (c : Bool) (a : Int) : Nat → List (Int × Int)
  | 0 => []
  | m + 1 => itR x f c a ((x.length : Int) - ((m + 1 : Nat) : Int)) ++ rowR x f c a m
def allR (x f : List Int) (c : Bool) : Nat → List (Int × Int)
  | 0 => []
  | k + 1 => rowR x f c ((x.length : Int) - ((k + 1 : Nat) : Int)) (x.length + 1) ++ allR x f c k
end Go.Ab.Jug

namespace Go.Ab.Jug
open Go.Ab.V
set_option maxRecDepth 100000
end Go.Ab.Jug

namespace Go.Ab.Jug
set_option maxRecDepth 1000000
theorem awake_runs : (match run true cfg0 400 (.call 20 [] ⟨fun _ => none, .lf, 0, 0⟩) with
  | some (_, .nd (.bool true) _ _, _) => true
  | _ => false) = true := by decide +kernel
theorem awake_closed : ClosedAns cfg0 20 (.bool true) := by
  have h := awake_runs
  split at h
  · rename_i e l r h' he; exact ⟨400, e, l, r, h', he⟩
  · cases h
end Go.Ab.Jug

namespace Go.Ab.Jug
open Go.Ab.V
set_option maxRecDepth 100000
end Go.Ab.Jug

namespace Go.Ab.Jug
/-! ### Two jugs, of which always the same one is filled -/
def nx (a b : Nat) (q : Nat × Nat) : Nat × Nat := if q.2 = b then (q.1, 0) else if q.1 = 0 then (a, q.2) else (q.1 - min q.1 (b - q.2), q.2 + min q.1 (b - q.2))
def itn (a b : Nat) : Nat → Nat × Nat → Nat × Nat
  | 0, q => q
  | n + 1, q => itn a b n (nx a b q)
def sq (a b n : Nat) : Nat × Nat := itn a b n (0, 0)
theorem itn_add (a b : Nat) : ∀ (n m : Nat) (q : Nat × Nat), itn a b (n + m) q = itn a b m (itn a b n q)
  | 0, m, q => by rw [Nat.zero_add]; rfl
  | n + 1, m, q => by rw [Nat.add_right_comm]; exact itn_add a b n m _
theorem sq_succ (a b n : Nat) : sq a b (n + 1) = nx a b (sq a b n) := by unfold sq; rw [itn_add]; rfl
theorem bez (a b : Nat) : ∃ x y : Int, x * a + y * b = (Nat.gcd a b : Int) := by
  induction a, b using Nat.gcd.induction with
  | H0 n => exact ⟨0, 1, by simp⟩
  | H1 m n hm ih =>
    obtain ⟨x, y, h⟩ := ih
    refine ⟨y - x * ((n / m : Nat) : Int), x, ?_⟩
    rw [Nat.gcd_rec, ← h]
    have : (n : Int) = m * ((n / m : Nat) : Int) + ((n % m : Nat) : Int) := by
      have := Nat.div_add_mod n m
      exact_mod_cast this.symm
    have e : x * (n : Int) = x * (m * ((n / m : Nat) : Int)) + x * ((n % m : Nat) : Int) := by rw [← Int.mul_add, ← this]
    rw [e, Int.sub_mul, Int.mul_assoc x, Int.mul_comm ((n / m : Nat) : Int) m]
    omega
theorem bez_mod {a b m : Nat} (hb : 0 < b) (h : Nat.gcd a b ∣ m) : ∃ k : Nat, (k * a) % b = m % b := by
  obtain ⟨t, rfl⟩ := h
  obtain ⟨x, y, h⟩ := bez a b
  refine ⟨((x * t) % b).toNat, ?_⟩
  have hn : 0 ≤ (x * t) % (b : Int) := Int.emod_nonneg _ (by omega)
  have : ((((x * t) % (b : Int)).toNat * a % b : Nat) : Int) = ((Nat.gcd a b * t % b : Nat) : Int) := by
    rw [Int.natCast_emod, Int.natCast_emod, Int.natCast_mul, Int.natCast_mul, Int.toNat_of_nonneg hn, ← h]
    rw [Int.mul_emod, Int.emod_emod, ← Int.mul_emod]
    have e : (x * a + y * b) * (t : Int) = x * t * a + (y * t) * b := by
      rw [Int.add_mul, Int.mul_assoc x, Int.mul_comm (a : Int) t, ← Int.mul_assoc x, Int.mul_assoc y, Int.mul_comm (b : Int) t, ← Int.mul_assoc y]
    rw [e, Int.add_mul_emod_self_right]
  exact_mod_cast this
theorem drain {a b : Nat} (hb : 0 < b) : ∀ (s o : Nat), o < b → ∃ n, itn a b n (s, o) = (0, (s + o) % b) := by
  intro s
  induction s using Nat.strongRecOn with
  | _ s ih =>
    intro o ho
    rcases Nat.eq_zero_or_pos s with h | h
    · subst h; exact ⟨0, by rw [Nat.zero_add, Nat.mod_eq_of_lt ho]; rfl⟩
    · have hnx : nx a b (s, o) = (s - min s (b - o), o + min s (b - o)) := by
        unfold nx; rw [if_neg (by simp only; omega), if_neg (by simp only; omega)]
      rcases Nat.lt_or_ge s (b - o) with h1 | h1
      · refine ⟨1, ?_⟩
        show nx a b (s, o) = _
        rw [hnx, Nat.min_eq_left (by omega), Nat.sub_self, Nat.mod_eq_of_lt (by omega), Nat.add_comm]
      · obtain ⟨n, hn⟩ := ih (s - (b - o)) (by omega) 0 hb
        refine ⟨2 + n, ?_⟩
        rw [itn_add]
        show itn a b n (nx a b (nx a b (s, o))) = _
        rw [hnx, Nat.min_eq_right h1]
        have : nx a b (s - (b - o), o + (b - o)) = (s - (b - o), 0) := by unfold nx; rw [if_pos (by simp only; omega)]
        rw [this, hn]
        congr 1
        have : s + o = (s - (b - o) + 0) + b := by omega
        rw [this, Nat.add_mod_right]
theorem drain2 {a b m : Nat} (hb : 0 < b) (hm : 0 < m) : ∀ (s o j : Nat), o < b → s + o = m + (j + 1) * b → ∃ n, (itn a b n (s, o)).1 = m := by
  intro s
  induction s using Nat.strongRecOn with
  | _ s ih =>
    intro o j ho h
    have hj : (j + 1) * b = j * b + b := Nat.succ_mul j b
    have hnx : nx a b (s, o) = (s - min s (b - o), o + min s (b - o)) := by
      unfold nx; rw [if_neg (by simp only; omega), if_neg (by simp only; omega)]
    have hk : min s (b - o) = b - o := Nat.min_eq_right (by omega)
    rw [hk] at hnx
    rcases Nat.eq_zero_or_pos j with h0 | h0
    · subst h0
      refine ⟨1, ?_⟩
      show (nx a b (s, o)).1 = m
      rw [hnx]; simp only; omega
    · obtain ⟨j, rfl⟩ : ∃ i, j = i + 1 := ⟨j - 1, by omega⟩
      have hj2 : (j + 1) * b = j * b + b := Nat.succ_mul j b
      obtain ⟨n, hn⟩ := ih (s - (b - o)) (by omega) 0 j hb (by omega)
      refine ⟨2 + n, ?_⟩
      rw [itn_add]
      show (itn a b n (nx a b (nx a b (s, o)))).1 = m
      rw [hnx]
      have : nx a b (s - (b - o), o + (b - o)) = (s - (b - o), 0) := by unfold nx; rw [if_pos (by simp only; omega)]
      rw [this]; exact hn
theorem phase {a b : Nat} (hb : 0 < b) : ∀ k, ∃ n, sq a b n = (0, (k * a) % b)
  | 0 => ⟨0, by simp [sq, itn]⟩
  | k + 1 => by
    obtain ⟨n, hn⟩ := phase (a := a) hb k
    have hr := Nat.mod_lt (k * a) hb
    obtain ⟨m, hm⟩ := drain (a := a) hb a ((k * a) % b) hr
    refine ⟨n + (1 + m), ?_⟩
    unfold sq at hn ⊢
    rw [itn_add, itn_add, hn]
    show itn a b m (nx a b (0, (k * a) % b)) = _
    have : nx a b (0, (k * a) % b) = (a, (k * a) % b) := by unfold nx; rw [if_neg (by simp only; omega), if_pos rfl]
    rw [this, hm, Nat.succ_mul, Nat.add_comm a, Nat.mod_add_mod]
theorem filled_at {a b : Nat} (hb : 0 < b) (k : Nat) : ∃ n, sq a b n = (a, (k * a) % b) := by
  obtain ⟨n, hn⟩ := phase (a := a) hb k
  have hr := Nat.mod_lt (k * a) hb
  refine ⟨n + 1, ?_⟩
  rw [sq_succ, hn]
  unfold nx; rw [if_neg (by simp only; omega), if_pos rfl]
/-- Each amount that can be measured turns up. -/
theorem hits {a b m : Nat} (ha : 0 < a) (hb : 0 < b) (hm : m ≤ max a b) (hg : Nat.gcd a b ∣ m) : ∃ n, (sq a b n).1 = m ∨ (sq a b n).2 = m := by
  rcases Nat.lt_trichotomy m b with h | h | h
  · obtain ⟨k, hk⟩ := bez_mod hb hg
    obtain ⟨n, hn⟩ := phase (a := a) hb k
    exact ⟨n, .inr (by rw [hn, hk, Nat.mod_eq_of_lt h])⟩
  · have : ∃ k, b ≤ (k * a) % b + a := Classical.byContradiction fun hno => by
      have hall : ∀ k, (k * a) % b + a < b := fun k => Nat.lt_of_not_le fun h => hno ⟨k, h⟩
      have hk : ∀ k, (k * a) % b = k * a := by
        intro k
        induction k with
        | zero => simp
        | succ k ih =>
          have := hall k
          rw [ih] at this
          rw [Nat.succ_mul]; exact Nat.mod_eq_of_lt this
      have h1 := hall b
      rw [hk b] at h1
      have : b * 1 ≤ b * a := Nat.mul_le_mul_left b ha
      omega
    obtain ⟨k, hk⟩ := this
    obtain ⟨n, hn⟩ := filled_at (a := a) hb k
    have hr := Nat.mod_lt (k * a) hb
    refine ⟨n + 1, .inr ?_⟩
    rw [sq_succ, hn]
    unfold nx
    rw [if_neg (by simp only; omega), if_neg (by simp only; omega)]
    simp only; omega
  · have hma : m ≤ a := by omega
    obtain ⟨k, hk⟩ := bez_mod hb hg
    have hk2 : ((k + b) * a) % b = m % b := by rw [Nat.add_mul, Nat.add_mul_mod_self_left]; exact hk
    obtain ⟨k', hk'⟩ : ∃ k', k + b = k' + 1 := ⟨k + b - 1, by omega⟩
    rw [hk', Nat.succ_mul] at hk2
    obtain ⟨n, hn⟩ := filled_at (a := a) hb k'
    rcases Nat.eq_or_lt_of_le hma with h1 | h1
    · exact ⟨n, .inl (by rw [hn, h1])⟩
    · have hr := Nat.mod_lt (k' * a) hb
      generalize hR : (k' * a) % b = r at *
      have h2 : (a + r) % b = m % b := by rw [Nat.add_comm, ← hR, Nat.mod_add_mod]; exact hk2
      have h3 : (a + r - m) % b = 0 := Nat.sub_mod_eq_zero_of_mod_eq h2
      obtain ⟨j, hj⟩ := Nat.dvd_of_mod_eq_zero h3
      have hj0 : 0 < j := Nat.pos_of_ne_zero fun e => by subst e; omega
      obtain ⟨j, rfl⟩ : ∃ i, j = i + 1 := ⟨j - 1, by omega⟩
      rw [Nat.mul_comm] at hj
      obtain ⟨p, hp⟩ := drain2 (a := a) hb (by omega : 0 < m) a r j hr (by omega)
      refine ⟨n + p, .inl ?_⟩
      unfold sq at hn ⊢
      rw [itn_add, hn]; exact hp
theorem least {P : Nat → Prop} (h : ∃ n, P n) : ∃ n, P n ∧ ∀ k, k < n → ¬P k := by
  obtain ⟨n, hn⟩ := h
  induction n using Nat.strongRecOn with
  | _ n ih =>
    by_cases h1 : ∃ k, k < n ∧ P k
    · obtain ⟨k, hk, hp⟩ := h1
      exact ih k hk hp
    · exact ⟨n, hn, fun k hk hp => h1 ⟨k, hk, hp⟩⟩
theorem nx_bd {a b : Nat} {q : Nat × Nat} (h : q.1 ≤ a ∧ q.2 ≤ b) : (nx a b q).1 ≤ a ∧ (nx a b q).2 ≤ b := by
  unfold nx
  split
  · exact ⟨h.1, Nat.zero_le _⟩
  · split
    · exact ⟨Nat.le_refl _, h.2⟩
    · simp only; omega
theorem sq_bd (a b : Nat) : ∀ n, (sq a b n).1 ≤ a ∧ (sq a b n).2 ≤ b
  | 0 => ⟨Nat.zero_le _, Nat.zero_le _⟩
  | n + 1 => by rw [sq_succ]; exact nx_bd (sq_bd a b n)
/-- The step's numbers. -/
def lab (first : Bool) (b : Nat) (q : Nat × Nat) : Int × Int := if q.2 = b then (if first then 1 else 0, -1) else if q.1 = 0 then (-1, if first then 0 else 1) else (if first then 0 else 1, if first then 1 else 0)
def cf (first : Bool) (q : Nat × Nat) : List Int := if first then [(q.1 : Int), (q.2 : Int)] else [(q.2 : Int), (q.1 : Int)]
theorem step_nx (a b : Nat) (q : Nat × Nat) (first : Bool) (h : q.1 ≤ a ∧ q.2 ≤ b) : stepR (cf first (a, b)) (cf first q) (lab first b q).1 (lab first b q).2 = cf first (nx a b q) := by
  obtain ⟨s, o⟩ := q
  simp only at h
  have e1 : ∀ x y : Int, atQ [x, y] 0 = x := fun x y => rfl
  have e2 : ∀ x y : Int, atQ [x, y] 1 = y := fun x y => rfl
  have t0 : Int.toNat 0 = 0 := rfl
  have t1 : Int.toNat 1 = 1 := rfl
  unfold lab nx
  cases first
  all_goals
    simp only [cf, if_true, Bool.false_eq_true, if_false]
    split
    · simp [stepR, t0, t1]
    · split
      · simp [stepR, t0, t1, e1, e2]
      · simp only [stepR, e1, e2, t0, t1]
        simp
        omega
theorem lab_ok (first : Bool) (b : Nat) (q : Nat × Nat) : isR 2 (lab first b q).1 (lab first b q).2 = true := by
  unfold lab
  cases first
  all_goals
    simp only [if_true, Bool.false_eq_true, if_false]
    split
    · rfl
    · split <;> rfl
end Go.Ab.Jug

namespace Go.Ab.Jug
open Go.Ab.V
set_option maxRecDepth 100000
def okT (a b m : Int) : Prop := 1 ≤ a ∧ a ≤ 1000 ∧ 1 ≤ b ∧ b ≤ 1000 ∧ 0 ≤ m ∧ m ≤ max a b
theorem gcd2 (a b : Nat) : gcdL [(a : Int), (b : Int)] = Nat.gcd a b := by simp [gcdL]
theorem checkTwo_no (a b m : Int) (h : ¬okT a b m) : VCall cfg 53 [vi a, vi b, vi m] [] [] (.tup [vb false, vi 1]) [] := by
  have h : min a b < 1 ∨ (¬ min a b < 1 ∧ max a b > 1000) ∨ (¬ min a b < 1 ∧ ¬ max a b > 1000 ∧ m < 0) ∨ (¬ min a b < 1 ∧ ¬ max a b > 1000 ∧ ¬ m < 0 ∧ m > max a b) := by unfold okT at h; omega
  generalize hA : min a b = A at *
  generalize hB : max a b = B at *
  rcases h with h | ⟨h1, h⟩ | ⟨h1, h2, h⟩ | ⟨h1, h2, h3, h⟩
  all_goals
    (refine VCall.mk (fn := a53) rfl rfl rfl ?_; simp only [a53, inV, mkB, nmsL, PT.set])
    (repeat (first | refine VC.seq ?_ | refine VC.block ?_ | refine VC.kill ?_ | refine VC.skip ?_ | refine VC.exit ?_ | refine VC.regA ?_ | refine VC.condT ?_ | refine VC.condF ?_))
    exact VC.ret (Fin.A rfl)
theorem checkTwo_ok (a b m : Nat) (h : okT a b m) : VCall cfg 53 [vi a, vi b, vi m] [] [] (.tup [vb (decide (m % Nat.gcd a b = 0)), vi 0]) [] := by
  unfold okT at h
  have k := divisor_ok [(a : Int), (b : Int)] (by simp) (by simp)
  rw [gcd2] at k
  have hg : 0 < Nat.gcd a b := Nat.gcd_pos_of_pos_left _ (by omega)
  have hg2 : Nat.gcd a b ≤ a := Nat.gcd_le_left _ (by omega)
  generalize hG : Nat.gcd a b = g at *
  have h1 : ¬ min (a : Int) b < 1 := by omega
  have h2 : ¬ max (a : Int) b > 1000 := by omega
  have h3 : ¬ (m : Int) < 0 := by omega
  have h4 : ¬ (m : Int) > max (a : Int) b := by omega
  (refine VCall.mk (fn := a53) rfl rfl rfl ?_; simp only [a53, inV, mkB, nmsL, PT.set])
  (repeat (first | refine VC.seq ?_ | refine VC.block ?_ | refine VC.kill ?_ | refine VC.skip ?_ | refine VC.exit ?_ | refine VC.regA ?_ | refine VC.condT ?_ | refine VC.condF ?_))
  refine VC.regCA ?_
  refine VO.moreA ?_
  refine VO.frzA p32 ?_
  refine VO.call0A (no_orc 58 (by decide)) k ?_
  have e1 : ((m : Int) % (g : Int)) = ((m % g : Nat) : Int) := rfl
  apply VO.uptoE
  · (simp (config := {decide := false, maxSteps := 1000000}) (disch := omega) only [vev_call, putC_c0, putC_n0, putC_cs, ble0, List.getElem?_cons_zero, List.getElem?_cons_succ, runU, isCall, wantV, vev, evV, ofVal, ofAtom, atomB, cond_true, cond_false, PT.get, PT.set, PT.filt, PT.map, Option.getD_some, Option.getD_none, ret1V, ret1X, v_ld, v_ias, v_iad, v_fad, v_slsl, v_slarr, v_st, v_app, v_cpy, v_len, v_look, v_mset, elsV, partV, newV, free, atV, atI, atL, toVal, cellsV, okV, VSt.put, VSt.kill, VSt.alloc, VSt.frz, VSt.adopt, noref, norefB, deadB, deadV, nos, nm, nmL, nmB, nmE, Pa.eqb, Bool.not_false, Bool.not_true, Bool.and_true, Bool.true_and, Bool.false_and, Bool.and_false, bin, intOps, intBin, cvt, un, goInt, bndsV, bndV, Option.map_some, Option.map_none, List.map_cons, List.map_nil, Int.toNat_natCast, Nat.mul_one, Nat.zero_add, beq_true, beq_false, beq_self_eq_true, List.length_map, List.length_cons, List.length_nil, List.length_append, fillV, pEvV, repsV, List.append_nil, List.nil_append, if_pos, if_neg, reduceIte, List.getElem?_map, List.getElem?_drop, Nat.add_zero, List.getElem?_eq_getElem, Go.IntWalk.i64_in, wrap_u64, tmod_pos, eq_self, true_and, and_true, and_self, List.all_cons, List.all_nil, nmL_vi, flV_len, flP_len, flV_nm, flV_ok, flV_pv, flP_map, drop_flP, drop_flV, putC_flV, eqV2, eqV3, bneT, bneF, decide_true, decide_false, frzL_vi, frzL_flV, nmE_ag, nmE_at, frzE_ag, frzE_at, ofAg_len, ofAt_len, atL_vi, nmL_map_p, frzL_map_p, okL_p, toPVs_p, repsZ, nmL_reps, putC_vi, get_flV0, get_flV1, Int.toNat_zero, Int.toNat_one, Int.reduceToNat, eqV_slice, eqV_ptr, eqV_func, nilS, nilP, nilF, nmL_append, okL_vi, toPVs_vi, toPVs, toPV, frzV, frzL, frzB, resVV, vi, vb, nilV, sl1, bl1, pi, foldV, max2, min2, max_eq, min_eq, Int.tdiv_eq_ediv_of_nonneg, Int.cast_ofNat_Int, Option.isSome_none, Option.isSome_some, Option.isNone_none, Option.isNone_some, and_false, false_and, sl2, sl1P, slP, min_cast, take_map_pi, map_pi, Nat.sub_zero, Nat.zero_mul, List.length_take, decide_eq_true, decide_eq_false, Bool.true_eq_false, Bool.false_eq_true, beqT, beqF, ibeq, ibne, List.take_zero, List.take_succ_cons, List.drop_zero, List.drop_succ_cons, List.drop_nil, List.take_nil, List.cons_append, Bool.not_true, Bool.not_false, e1])
    rfl
  have e2 : ((m % g : Nat) : Int) = 0 ↔ m % g = 0 := by omega
  refine VC.ret (Fin.A ?_)
  simp only [e2]
  rfl
end Go.Ab.Jug

namespace Go.Ab.Jug
open Go.Ab.V
set_option maxRecDepth 100000
def pairL (a b : Nat) (one : Int) : List VV := [vi 2, vi a, vi b, vi 0, vi 0, vb false, vi one]
theorem newPair_ok (a b : Nat) (first : Bool) : VCall cfg 54 [vi a, vi b, vb first] [] [] (.agg (pairL a b (if first then 0 else 1))) [] := by
  (refine VCall.mk (fn := a54) rfl rfl rfl ?_; simp only [a54, inV, mkB, nmsL, PT.set])
  unfold pairL
  cases first
  · (repeat (first | refine VC.seq ?_ | refine VC.block ?_ | refine VC.kill ?_ | refine VC.skip ?_ | refine VC.exit ?_ | refine VC.regA ?_ | refine VC.condT ?_ | refine VC.condF ?_))
    exact VC.ret (Fin.A (hys := rfl) rfl)
  · (repeat (first | refine VC.seq ?_ | refine VC.block ?_ | refine VC.kill ?_ | refine VC.skip ?_ | refine VC.exit ?_ | refine VC.regA ?_ | refine VC.condT ?_ | refine VC.condF ?_))
    exact VC.ret (Fin.A (hys := rfl) rfl)
set_option maxHeartbeats 1000000 in
theorem next1_ok_0  {a b u v : Nat} (ha : a ≤ 1000) (hb : b ≤ 1000) (hu : u ≤ a) (hv : v ≤ b) (h1 : v = b) : VCall cfg 68 [.agg [vi 2, vi a, vi b, vi 0, vi 0, vb false, vi 0], .agg [vi u, vi v, vi 0, vi 0]] [] [] (.agg [vi 1, vi (-1)]) [] := by
  (refine VCall.mk (fn := a68) rfl rfl rfl ?_; simp only [a68, inV, mkB, nmsL, PT.set])
  (repeat (first | refine VC.seq ?_ | refine VC.block ?_ | refine VC.kill ?_ | refine VC.skip ?_ | refine VC.exit ?_ | refine VC.regA ?_ | refine VC.condT ?_ | refine VC.condF ?_))
  exact VC.ret (Fin.A (hys := rfl) rfl)
set_option maxHeartbeats 1000000 in
theorem next1_ok_1  {a b u v : Nat} (ha : a ≤ 1000) (hb : b ≤ 1000) (hu : u ≤ a) (hv : v ≤ b) (h1 : ¬v = b) (h2 : u = 0) : VCall cfg 68 [.agg [vi 2, vi a, vi b, vi 0, vi 0, vb false, vi 0], .agg [vi u, vi v, vi 0, vi 0]] [] [] (.agg [vi (-1), vi 0]) [] := by
  (refine VCall.mk (fn := a68) rfl rfl rfl ?_; simp only [a68, inV, mkB, nmsL, PT.set])
  (repeat (first | refine VC.seq ?_ | refine VC.block ?_ | refine VC.kill ?_ | refine VC.skip ?_ | refine VC.exit ?_ | refine VC.regA ?_ | refine VC.condT ?_ | refine VC.condF ?_))
  exact VC.ret (Fin.A (hys := rfl) rfl)
set_option maxHeartbeats 1000000 in
theorem next1_ok_2  {a b u v : Nat} (ha : a ≤ 1000) (hb : b ≤ 1000) (hu : u ≤ a) (hv : v ≤ b) (h1 : ¬v = b) (h2 : ¬u = 0) : VCall cfg 68 [.agg [vi 2, vi a, vi b, vi 0, vi 0, vb false, vi 0], .agg [vi u, vi v, vi 0, vi 0]] [] [] (.agg [vi 0, vi 1]) [] := by
  (refine VCall.mk (fn := a68) rfl rfl rfl ?_; simp only [a68, inV, mkB, nmsL, PT.set])
  (repeat (first | refine VC.seq ?_ | refine VC.block ?_ | refine VC.kill ?_ | refine VC.skip ?_ | refine VC.exit ?_ | refine VC.regA ?_ | refine VC.condT ?_ | refine VC.condF ?_))
  exact VC.ret (Fin.A (hys := rfl) rfl)
theorem next1_ok  {a b u v : Nat} (ha : a ≤ 1000) (hb : b ≤ 1000) (hu : u ≤ a) (hv : v ≤ b) : VCall cfg 68 [.agg (pairL a b 0), .agg [vi u, vi v, vi 0, vi 0]] [] [] (ag2 (lab true b (u, v)).1 (lab true b (u, v)).2) [] := by
  by_cases h1 : v = b
  · have e : lab true b (u, v) = (1, (-1)) := by simp [lab, h1]
    rw [e]
    exact next1_ok_0 ha hb hu hv h1
  · by_cases h2 : u = 0
    · have e : lab true b (u, v) = ((-1), 0) := by simp [lab, h1, h2]
      rw [e]
      exact next1_ok_1 ha hb hu hv h1 h2
    · have e : lab true b (u, v) = (0, 1) := by simp [lab, h1, h2]
      rw [e]
      exact next1_ok_2 ha hb hu hv h1 h2
set_option maxHeartbeats 1000000 in
theorem next2_ok_0  {a b u v : Nat} (ha : a ≤ 1000) (hb : b ≤ 1000) (hu : u ≤ a) (hv : v ≤ b) (h1 : u = a) : VCall cfg 68 [.agg [vi 2, vi a, vi b, vi 0, vi 0, vb false, vi 1], .agg [vi u, vi v, vi 0, vi 0]] [] [] (.agg [vi 0, vi (-1)]) [] := by
  (refine VCall.mk (fn := a68) rfl rfl rfl ?_; simp only [a68, inV, mkB, nmsL, PT.set])
  (repeat (first | refine VC.seq ?_ | refine VC.block ?_ | refine VC.kill ?_ | refine VC.skip ?_ | refine VC.exit ?_ | refine VC.regA ?_ | refine VC.condT ?_ | refine VC.condF ?_))
  exact VC.ret (Fin.A (hys := rfl) rfl)
set_option maxHeartbeats 1000000 in
theorem next2_ok_1  {a b u v : Nat} (ha : a ≤ 1000) (hb : b ≤ 1000) (hu : u ≤ a) (hv : v ≤ b) (h1 : ¬u = a) (h2 : v = 0) : VCall cfg 68 [.agg [vi 2, vi a, vi b, vi 0, vi 0, vb false, vi 1], .agg [vi u, vi v, vi 0, vi 0]] [] [] (.agg [vi (-1), vi 1]) [] := by
  (refine VCall.mk (fn := a68) rfl rfl rfl ?_; simp only [a68, inV, mkB, nmsL, PT.set])
  (repeat (first | refine VC.seq ?_ | refine VC.block ?_ | refine VC.kill ?_ | refine VC.skip ?_ | refine VC.exit ?_ | refine VC.regA ?_ | refine VC.condT ?_ | refine VC.condF ?_))
  exact VC.ret (Fin.A (hys := rfl) rfl)
set_option maxHeartbeats 1000000 in
theorem next2_ok_2  {a b u v : Nat} (ha : a ≤ 1000) (hb : b ≤ 1000) (hu : u ≤ a) (hv : v ≤ b) (h1 : ¬u = a) (h2 : ¬v = 0) : VCall cfg 68 [.agg [vi 2, vi a, vi b, vi 0, vi 0, vb false, vi 1], .agg [vi u, vi v, vi 0, vi 0]] [] [] (.agg [vi 1, vi 0]) [] := by
  (refine VCall.mk (fn := a68) rfl rfl rfl ?_; simp only [a68, inV, mkB, nmsL, PT.set])
  (repeat (first | refine VC.seq ?_ | refine VC.block ?_ | refine VC.kill ?_ | refine VC.skip ?_ | refine VC.exit ?_ | refine VC.regA ?_ | refine VC.condT ?_ | refine VC.condF ?_))
  exact VC.ret (Fin.A (hys := rfl) rfl)
theorem next2_ok  {a b u v : Nat} (ha : a ≤ 1000) (hb : b ≤ 1000) (hu : u ≤ a) (hv : v ≤ b) : VCall cfg 68 [.agg (pairL a b 1), .agg [vi u, vi v, vi 0, vi 0]] [] [] (ag2 (lab false a (v, u)).1 (lab false a (v, u)).2) [] := by
  by_cases h1 : u = a
  · have e : lab false a (v, u) = (0, (-1)) := by simp [lab, h1]
    rw [e]
    exact next2_ok_0 ha hb hu hv h1
  · by_cases h2 : v = 0
    · have e : lab false a (v, u) = ((-1), 1) := by simp [lab, h1, h2]
      rw [e]
      exact next2_ok_1 ha hb hu hv h1 h2
    · have e : lab false a (v, u) = (1, 0) := by simp [lab, h1, h2]
      rw [e]
      exact next2_ok_2 ha hb hu hv h1 h2
end Go.Ab.Jug

namespace Go.Ab.Jug
open Go.Ab.V
set_option maxRecDepth 100000
def pairP (a b : Nat) (one : Int) : List PV := [pi 2, pi a, pi b, pi 0, pi 0, .at (.bool false), pi one]
set_option maxHeartbeats 1000000 in
theorem do1_ok_0  {a b u v : Nat} (ha : a ≤ 1000) (hb : b ≤ 1000) (hu : u ≤ a) (hv : v ≤ b) (h1 : v = b) : VCall cfg 62 [.agg [vi 1, vi (-1)], .p (.fp 0 [pi 2, pi a, pi b, pi 0, pi 0, .at (.bool false), pi 0]), .agg [vi u, vi v, vi 0, vi 0]] [] [] (.agg [vi (u : Nat), vi 0, vi 0, vi 0]) [] := by
  (refine VCall.mk (fn := a62) rfl rfl rfl ?_; simp only [a62, inV, mkB, nmsL, PT.set])
  (repeat (first | refine VC.seq ?_ | refine VC.block ?_ | refine VC.kill ?_ | refine VC.skip ?_ | refine VC.exit ?_ | refine VC.regA ?_ | refine VC.condT ?_ | refine VC.condF ?_))
  exact VC.ret (Fin.A (hys := rfl) rfl)
set_option maxHeartbeats 1000000 in
theorem do1_ok_1  {a b u v : Nat} (ha : a ≤ 1000) (hb : b ≤ 1000) (hu : u ≤ a) (hv : v ≤ b) (h1 : ¬v = b) (h2 : u = 0) : VCall cfg 62 [.agg [vi (-1), vi 0], .p (.fp 0 [pi 2, pi a, pi b, pi 0, pi 0, .at (.bool false), pi 0]), .agg [vi u, vi v, vi 0, vi 0]] [] [] (.agg [vi (a : Nat), vi (v : Nat), vi 0, vi 0]) [] := by
  (refine VCall.mk (fn := a62) rfl rfl rfl ?_; simp only [a62, inV, mkB, nmsL, PT.set])
  (repeat (first | refine VC.seq ?_ | refine VC.block ?_ | refine VC.kill ?_ | refine VC.skip ?_ | refine VC.exit ?_ | refine VC.regA ?_ | refine VC.condT ?_ | refine VC.condF ?_))
  exact VC.ret (Fin.A (hys := rfl) rfl)
set_option maxHeartbeats 1000000 in
theorem do1_ok_2  {a b u v : Nat} (ha : a ≤ 1000) (hb : b ≤ 1000) (hu : u ≤ a) (hv : v ≤ b) (h1 : ¬v = b) (h2 : ¬u = 0) : VCall cfg 62 [.agg [vi 0, vi 1], .p (.fp 0 [pi 2, pi a, pi b, pi 0, pi 0, .at (.bool false), pi 0]), .agg [vi u, vi v, vi 0, vi 0]] [] [] (.agg [vi ((u : Int) - min (u : Int) ((b : Int) - v)), vi ((v : Int) + min (u : Int) ((b : Int) - v)), vi 0, vi 0]) [] := by
  (refine VCall.mk (fn := a62) rfl rfl rfl ?_; simp only [a62, inV, mkB, nmsL, PT.set])
  (repeat (first | refine VC.seq ?_ | refine VC.block ?_ | refine VC.kill ?_ | refine VC.skip ?_ | refine VC.exit ?_ | refine VC.regA ?_ | refine VC.condT ?_ | refine VC.condF ?_))
  exact VC.ret (Fin.A (hys := rfl) rfl)
theorem do1_ok  {a b u v : Nat} (ha : a ≤ 1000) (hb : b ≤ 1000) (hu : u ≤ a) (hv : v ≤ b) : VCall cfg 62 [ag2 (lab true b (u, v)).1 (lab true b (u, v)).2, .p (.fp 0 (pairP a b 0)), .agg [vi u, vi v, vi 0, vi 0]] [] [] (.agg [vi (nx a b (u, v)).1, vi (nx a b (u, v)).2, vi 0, vi 0]) [] := by
  by_cases h1 : v = b
  · have e : lab true b (u, v) = (1, (-1)) := by simp [lab, h1]
    have e2 : nx a b (u, v) = (u, 0) := by simp [nx, h1]
    rw [e, e2]
    exact do1_ok_0 ha hb hu hv h1
  · by_cases h2 : u = 0
    · have e : lab true b (u, v) = ((-1), 0) := by simp [lab, h1, h2]
      have e2 : nx a b (u, v) = (a, v) := by simp [nx, h1, h2]
      rw [e, e2]
      exact do1_ok_1 ha hb hu hv h1 h2
    · have e : lab true b (u, v) = (0, 1) := by simp [lab, h1, h2]
      have e2 : nx a b (u, v) = (u - min u (b - v), v + min u (b - v)) := by simp [nx, h1, h2]
      have e3 : ((u - min u (b - v) : Nat) : Int) = (u : Int) - min (u : Int) ((b : Int) - v) := by omega
      have e4 : ((v + min u (b - v) : Nat) : Int) = (v : Int) + min (u : Int) ((b : Int) - v) := by omega
      have k := do1_ok_2 ha hb hu hv h1 h2
      rw [← e3, ← e4] at k
      rw [e, e2]
      exact k
end Go.Ab.Jug

namespace Go.Ab.Jug
open Go.Ab.V
set_option maxRecDepth 100000
set_option maxHeartbeats 4000000 in
theorem stepK_ok (x f : List Int) (a b : Int) (hx : x.length ≤ 4) (hf : f.length = x.length) (ha : -9223372036854775808 ≤ a ∧ a ≤ 9223372036854775807) (hb : -9223372036854775808 ≤ b ∧ b ≤ 9223372036854775807)
    (hq : ∀ i ∈ x, 1 ≤ i ∧ i ≤ 1000) (hv : ∀ (k : Nat) (h : k < f.length) (h' : k < x.length), 0 ≤ f[k] ∧ f[k] ≤ x[k]) (h0 : 1 ≤ x.length) :
    VCall cfg 49 [sl1 x, sl1 f, ag2 a b] [] [] (.tup [sl1 (if isR x.length a b then stepR x f a b else f), vb (isR x.length a b)]) [] := by
  (refine VCall.mk (fn := a49) rfl rfl rfl ?_; simp only [a49, inV, mkB, nmsL, PT.set])
  simp only [ag2]
  cases hr : isR x.length a b with
  | false =>
    by_cases h1 : a < -1
    · (repeat (first | refine VC.seq ?_ | refine VC.block ?_ | refine VC.kill ?_ | refine VC.skip ?_ | refine VC.exit ?_ | refine VC.regA ?_ | refine VC.condT ?_ | refine VC.condF ?_))
      exact VC.ret (Fin.A rfl)
    by_cases h2 : (x.length : Int) ≤ a
    · (repeat (first | refine VC.seq ?_ | refine VC.block ?_ | refine VC.kill ?_ | refine VC.skip ?_ | refine VC.exit ?_ | refine VC.regA ?_ | refine VC.condT ?_ | refine VC.condF ?_))
      exact VC.ret (Fin.A rfl)
    by_cases h3 : b < -1
    · (repeat (first | refine VC.seq ?_ | refine VC.block ?_ | refine VC.kill ?_ | refine VC.skip ?_ | refine VC.exit ?_ | refine VC.regA ?_ | refine VC.condT ?_ | refine VC.condF ?_))
      exact VC.ret (Fin.A rfl)
    by_cases h4 : (x.length : Int) ≤ b
    · (repeat (first | refine VC.seq ?_ | refine VC.block ?_ | refine VC.kill ?_ | refine VC.skip ?_ | refine VC.exit ?_ | refine VC.regA ?_ | refine VC.condT ?_ | refine VC.condF ?_))
      exact VC.ret (Fin.A rfl)
    by_cases h5 : a = b
    · (repeat (first | refine VC.seq ?_ | refine VC.block ?_ | refine VC.kill ?_ | refine VC.skip ?_ | refine VC.exit ?_ | refine VC.regA ?_ | refine VC.condT ?_ | refine VC.condF ?_))
      exact VC.ret (Fin.A rfl)
    · exfalso
      have g1 : inR x.length a = true := by rw [inR, decide_eq_true_iff]; omega
      have g2 : inR x.length b = true := by rw [inR, decide_eq_true_iff]; omega
      simp [isR, g1, g2, h5] at hr
  | true =>
    have hA : -1 ≤ a ∧ a < x.length := by simp only [isR, inR, Bool.and_eq_true, decide_eq_true_eq] at hr; omega
    have hB : -1 ≤ b ∧ b < x.length := by simp only [isR, inR, Bool.and_eq_true, decide_eq_true_eq] at hr; omega
    have hab : a ≠ b := by simp only [isR, inR, Bool.and_eq_true, decide_eq_true_eq] at hr; exact hr.2
    have eq_at : ∀ (l : List Int) (i : Nat) (h : i < l.length), l.getD i 0 = l[i] := fun l i h => by rw [List.getD_eq_getElem?_getD, List.getElem?_eq_getElem h]; rfl
    by_cases h1 : a = -1
    · have hb' : b.toNat < x.length := by omega
      have hb'' : b.toNat < f.length := by omega
      have hp := putC_map f b.toNat x[b.toNat] hb''
      have hst : stepR x f a b = f.set b.toNat x[b.toNat] := by rw [stepR, if_pos h1, atQ, eq_at x _ hb']
      simp only [vi] at hp
      (repeat (first | refine VC.seq ?_ | refine VC.block ?_ | refine VC.kill ?_ | refine VC.skip ?_ | refine VC.exit ?_ | refine VC.regA ?_ | refine VC.condT ?_ | refine VC.condF ?_))
      rw [hst]
      refine VC.ret (Fin.frzA p43 (hb := rfl) (hc := toPVs_vi _) (Fin.A ?_))
      rw [if_pos rfl, sl1, List.length_set]; rfl
    by_cases h2 : b = -1
    · have ha'' : a.toNat < f.length := by omega
      have hp := putC_map f a.toNat 0 ha''
      have hst : stepR x f a b = f.set a.toNat 0 := by rw [stepR, if_neg h1, if_pos h2]
      simp only [vi] at hp
      (repeat (first | refine VC.seq ?_ | refine VC.block ?_ | refine VC.kill ?_ | refine VC.skip ?_ | refine VC.exit ?_ | refine VC.regA ?_ | refine VC.condT ?_ | refine VC.condF ?_))
      rw [hst]
      refine VC.ret (Fin.frzA p43 (hb := rfl) (hc := toPVs_vi _) (Fin.A ?_))
      rw [if_pos rfl, sl1, List.length_set]; rfl
    · have ha' : a.toNat < x.length := by omega
      have ha'' : a.toNat < f.length := by omega
      have hb' : b.toNat < x.length := by omega
      have hb'' : b.toNat < f.length := by omega
      have v1 := hv _ ha'' ha'
      have v2 := hv _ hb'' hb'
      have v3 := hq _ (List.getElem_mem ha')
      have v4 := hq _ (List.getElem_mem hb')
      have hst : stepR x f a b = (f.set a.toNat (f[a.toNat] - min f[a.toNat] (x[b.toNat] - f[b.toNat]))).set b.toNat (f[b.toNat] + min f[a.toNat] (x[b.toNat] - f[b.toNat])) := by
        rw [stepR, if_neg h1, if_neg h2]; simp only [atQ, eq_at x _ hb', eq_at f _ ha'', eq_at f _ hb'']
      have hp := putC_map f a.toNat (f[a.toNat] - min f[a.toNat] (x[b.toNat] - f[b.toNat])) ha''
      have hp2 := putC_map (f.set a.toNat (f[a.toNat] - min f[a.toNat] (x[b.toNat] - f[b.toNat]))) b.toNat (f[b.toNat] + min f[a.toNat] (x[b.toNat] - f[b.toNat])) (by rw [List.length_set]; exact hb'')
      simp only [vi] at hp hp2
      have hls : (f.set a.toNat (f[a.toNat] - min f[a.toNat] (x[b.toNat] - f[b.toNat]))).length = f.length := List.length_set
      (repeat (first | refine VC.seq ?_ | refine VC.block ?_ | refine VC.kill ?_ | refine VC.skip ?_ | refine VC.exit ?_ | refine VC.regA ?_ | refine VC.condT ?_ | refine VC.condF ?_))
      rw [hst]
      refine VC.ret (Fin.frzA p43 (hb := rfl) (hc := toPVs_vi _) (Fin.A ?_))
      rw [if_pos rfl, sl1, List.length_set, List.length_set]; rfl
theorem Has_ok (f : List Int) (m : Int) (hf : f.length ≤ 4) (hb : ∀ x ∈ f, 0 ≤ x ∧ x ≤ 1000) (hm : 0 ≤ m ∧ m ≤ 1000) : VCall cfg 36 [sl1 f, vi m] [] [] (vb (decide (m ∈ f))) [] := by
  (refine VCall.mk (fn := a36) rfl rfl rfl ?_; simp only [a36, inV, mkB, nmsL, PT.set])
  (repeat (first | refine VC.seq ?_ | refine VC.block ?_ | refine VC.kill ?_ | refine VC.skip ?_ | refine VC.exit ?_ | refine VC.regA ?_ | refine VC.condT ?_ | refine VC.condF ?_))
  refine VC.loopG (fun i : Nat => ⟨inV [p0, p1, p5] [sl1 f, vi m, vi i] .lf, .lf, [], none⟩) (fun n i => n = f.length - i ∧ i ≤ f.length ∧ ∀ k (h : k < f.length), k < i → f[k] ≠ m) (x := 0) ?_ ⟨rfl, Nat.zero_le _, fun _ _ h => absurd h (Nat.not_lt_zero _)⟩ ?_
  · (apply Go.Ab.V.G.weak; constructor <;> simp (config := {decide := true}) only [PT.Le, inV, mkB, PT.set, VSt.kill, VSt.adopt, VSt.alloc, PT.filt, PT.map, List.map_cons, List.map_nil, noref, norefB, deadB, deadV, nos, nm, nmL, nmB, nmE, Pa.eqb, cond_true, cond_false, Bool.not_true, Bool.not_false, Bool.and_true, Bool.true_and, nmL_vi, flV_len, flP_len, flV_nm, flV_ok, flV_pv, flP_map, drop_flP, drop_flV, putC_flV, eqV2, eqV3, bneT, bneF, decide_true, decide_false, frzL_vi, frzL_flV, nmE_ag, nmE_at, frzE_ag, frzE_at, ofAg_len, ofAt_len, atL_vi, nmL_map_p, frzL_map_p, okL_p, toPVs_p, repsZ, nmL_reps, putC_vi, get_flV0, get_flV1, Int.toNat_zero, Int.toNat_one, Int.reduceToNat, eqV_slice, eqV_ptr, eqV_func, nilS, nilP, nilF, nmL_append, true_or, or_true, and_self, true_and, and_true, Option.some.injEq, reduceCtorEq, false_or, or_false, VV.p.injEq, PV.at.injEq, Value.int.injEq, sl1, vi, bl1, vb, nilV])
  rintro n i ⟨hn, hi, hall⟩
  simp only [inV, PT.set]
  (repeat (first | refine VC.seq ?_ | refine VC.block ?_ | refine VC.kill ?_ | refine VC.skip ?_ | refine VC.exit ?_ | refine VC.regA ?_ | refine VC.condT ?_ | refine VC.condF ?_))
  refine VC.condA ?_ ?_ <;> intro h <;> (simp only [decide_eq_true_eq, decide_eq_false_iff_not, bne_iff_ne, ne_eq, bne_eq_false_iff_eq, beq_iff_eq, beq_eq_false_iff_ne, Bool.not_eq_true', Bool.not_eq_false', Bool.and_eq_true, Bool.or_eq_true, Int.natCast_inj] at h)
  · have h : i < f.length := by omega
    by_cases he : f[i] = m
    · have hmem : m ∈ f := by rw [← he]; exact List.getElem_mem h
      rw [decide_eq_true hmem]
      (repeat (first | refine VC.seq ?_ | refine VC.block ?_ | refine VC.kill ?_ | refine VC.skip ?_ | refine VC.exit ?_ | refine VC.regA ?_ | refine VC.condT ?_ | refine VC.condF ?_))
      exact VC.ret (Fin.A rfl)
    · (repeat (first | refine VC.seq ?_ | refine VC.block ?_ | refine VC.kill ?_ | refine VC.skip ?_ | refine VC.exit ?_ | refine VC.regA ?_ | refine VC.condT ?_ | refine VC.condF ?_))
      refine ⟨_, i + 1, ?_, ⟨rfl, by omega, fun k hk hki => ?_⟩, ?_⟩
      · omega
      · rcases Nat.lt_or_ge k i with h1 | h1
        · exact hall k hk h1
        · have : k = i := by omega
          subst this; exact he
      · (apply Go.Ab.V.G.weak; constructor <;> simp (config := {decide := true}) only [PT.Le, inV, mkB, PT.set, VSt.kill, VSt.adopt, VSt.alloc, PT.filt, PT.map, List.map_cons, List.map_nil, noref, norefB, deadB, deadV, nos, nm, nmL, nmB, nmE, Pa.eqb, cond_true, cond_false, Bool.not_true, Bool.not_false, Bool.and_true, Bool.true_and, nmL_vi, flV_len, flP_len, flV_nm, flV_ok, flV_pv, flP_map, drop_flP, drop_flV, putC_flV, eqV2, eqV3, bneT, bneF, decide_true, decide_false, frzL_vi, frzL_flV, nmE_ag, nmE_at, frzE_ag, frzE_at, ofAg_len, ofAt_len, atL_vi, nmL_map_p, frzL_map_p, okL_p, toPVs_p, repsZ, nmL_reps, putC_vi, get_flV0, get_flV1, Int.toNat_zero, Int.toNat_one, Int.reduceToNat, eqV_slice, eqV_ptr, eqV_func, nilS, nilP, nilF, nmL_append, true_or, or_true, and_self, true_and, and_true, Option.some.injEq, reduceCtorEq, false_or, or_false, VV.p.injEq, PV.at.injEq, Value.int.injEq, sl1, vi, bl1, vb, nilV])
        (all_goals first | rfl | omega | exact ⟨rfl, by omega⟩)
  · have hno : m ∉ f := fun hm => by
      obtain ⟨k, hk, e⟩ := List.mem_iff_getElem.1 hm
      exact hall k hk (by omega) e
    rw [decide_eq_false hno]
    (repeat (first | refine VC.seq ?_ | refine VC.block ?_ | refine VC.kill ?_ | refine VC.skip ?_ | refine VC.exit ?_ | refine VC.regA ?_ | refine VC.condT ?_ | refine VC.condF ?_))
    exact VC.ret (Fin.A rfl)
end Go.Ab.Jug

namespace Go.Ab.Jug
open Go.Ab.V
set_option maxRecDepth 100000
theorem gcdR_ok (a b : Nat) (ha : a ≤ 1000) (hb : b ≤ 1000) : VCall cfg 56 [vi a, vi b] [] [] (vi (Nat.gcd a b)) [] := by
  (refine VCall.mk (fn := a56) rfl rfl rfl ?_; simp only [a56, inV, mkB, nmsL, PT.set])
  (repeat (first | refine VC.seq ?_ | refine VC.block ?_ | refine VC.kill ?_ | refine VC.skip ?_ | refine VC.exit ?_ | refine VC.regA ?_ | refine VC.condT ?_ | refine VC.condF ?_))
  refine VC.loopG (fun q : Nat × Nat => ⟨inV [p0, p1] [vi q.1, vi q.2] .lf, .lf, [], none⟩) (fun n q => n = q.2 ∧ Nat.gcd q.1 q.2 = Nat.gcd a b ∧ q.1 ≤ 1000 ∧ q.2 ≤ 1000) (x := (a, b)) ?_ ⟨rfl, rfl, ha, hb⟩ ?_
  · (apply Go.Ab.V.G.weak; constructor <;> simp (config := {decide := true}) only [PT.Le, inV, mkB, PT.set, VSt.kill, VSt.adopt, VSt.alloc, PT.filt, PT.map, List.map_cons, List.map_nil, noref, norefB, deadB, deadV, nos, nm, nmL, nmB, nmE, Pa.eqb, cond_true, cond_false, Bool.not_true, Bool.not_false, Bool.and_true, Bool.true_and, nmL_vi, flV_len, flP_len, flV_nm, flV_ok, flV_pv, flP_map, drop_flP, drop_flV, putC_flV, eqV2, eqV3, bneT, bneF, decide_true, decide_false, frzL_vi, frzL_flV, nmE_ag, nmE_at, frzE_ag, frzE_at, ofAg_len, ofAt_len, atL_vi, nmL_map_p, frzL_map_p, okL_p, toPVs_p, repsZ, nmL_reps, putC_vi, get_flV0, get_flV1, Int.toNat_zero, Int.toNat_one, Int.reduceToNat, eqV_slice, eqV_ptr, eqV_func, nilS, nilP, nilF, nmL_append, true_or, or_true, and_self, true_and, and_true, Option.some.injEq, reduceCtorEq, false_or, or_false, VV.p.injEq, PV.at.injEq, Value.int.injEq, sl1, vi, bl1, vb, nilV])
  rintro n ⟨u, v⟩ ⟨hn, hg, hu, hv⟩
  simp only at hn hg hu hv
  simp only [inV, PT.set]
  (repeat (first | refine VC.seq ?_ | refine VC.block ?_ | refine VC.kill ?_ | refine VC.skip ?_ | refine VC.exit ?_ | refine VC.regA ?_ | refine VC.condT ?_ | refine VC.condF ?_))
  refine VC.condA ?_ ?_ <;> intro h <;> (simp only [decide_eq_true_eq, decide_eq_false_iff_not, bne_iff_ne, ne_eq, bne_eq_false_iff_eq, beq_iff_eq, beq_eq_false_iff_ne, Bool.not_eq_true', Bool.not_eq_false', Bool.and_eq_true, Bool.or_eq_true, Int.natCast_inj] at h)
  · have h : 0 < v := by omega
    have hm : u % v < v := Nat.mod_lt _ h
    (repeat (first | refine VC.seq ?_ | refine VC.block ?_ | refine VC.kill ?_ | refine VC.skip ?_ | refine VC.exit ?_ | refine VC.regA ?_ | refine VC.condT ?_ | refine VC.condF ?_))
    refine ⟨_, (v, u % v), ?_, ⟨rfl, (gcd_step u v).trans hg, hv, by simp only; omega⟩, ?_⟩
    · omega
    · (apply Go.Ab.V.G.weak; constructor <;> simp (config := {decide := true}) only [PT.Le, inV, mkB, PT.set, VSt.kill, VSt.adopt, VSt.alloc, PT.filt, PT.map, List.map_cons, List.map_nil, noref, norefB, deadB, deadV, nos, nm, nmL, nmB, nmE, Pa.eqb, cond_true, cond_false, Bool.not_true, Bool.not_false, Bool.and_true, Bool.true_and, nmL_vi, flV_len, flP_len, flV_nm, flV_ok, flV_pv, flP_map, drop_flP, drop_flV, putC_flV, eqV2, eqV3, bneT, bneF, decide_true, decide_false, frzL_vi, frzL_flV, nmE_ag, nmE_at, frzE_ag, frzE_at, ofAg_len, ofAt_len, atL_vi, nmL_map_p, frzL_map_p, okL_p, toPVs_p, repsZ, nmL_reps, putC_vi, get_flV0, get_flV1, Int.toNat_zero, Int.toNat_one, Int.reduceToNat, eqV_slice, eqV_ptr, eqV_func, nilS, nilP, nilF, nmL_append, true_or, or_true, and_self, true_and, and_true, Option.some.injEq, reduceCtorEq, false_or, or_false, VV.p.injEq, PV.at.injEq, Value.int.injEq, sl1, vi, bl1, vb, nilV])
      (all_goals first | rfl | omega | exact ⟨rfl, by omega⟩)
  · have : v = 0 := by omega
    subst this
    rw [Nat.gcd_zero_right] at hg
    subst hg
    (repeat (first | refine VC.seq ?_ | refine VC.block ?_ | refine VC.kill ?_ | refine VC.skip ?_ | refine VC.exit ?_ | refine VC.regA ?_ | refine VC.condT ?_ | refine VC.condF ?_))
    exact VC.ret (Fin.A rfl)
theorem pairs_ok (w : List (Int × Int)) (hw : w.length ≤ 2000000) : VCall cfg 29 [slP w, slP w] [] [] (vb true) [] := by
  (refine VCall.mk (fn := a29) rfl rfl rfl ?_; simp only [a29, inV, mkB, nmsL, PT.set])
  simp only [slP]
  (repeat (first | refine VC.seq ?_ | refine VC.block ?_ | refine VC.kill ?_ | refine VC.skip ?_ | refine VC.exit ?_ | refine VC.regA ?_ | refine VC.condT ?_ | refine VC.condF ?_))
  refine VC.loopG (fun i : Nat => ⟨inV [p0, p1, p5] [slP w, slP w, vi i] .lf, .lf, [], none⟩) (fun n i => n = w.length - i ∧ i ≤ w.length) (x := 0) ?_ ⟨rfl, Nat.zero_le _⟩ ?_
  · (apply Go.Ab.V.G.weak; constructor <;> simp (config := {decide := true}) only [PT.Le, inV, mkB, PT.set, VSt.kill, VSt.adopt, VSt.alloc, PT.filt, PT.map, List.map_cons, List.map_nil, noref, norefB, deadB, deadV, nos, nm, nmL, nmB, nmE, Pa.eqb, cond_true, cond_false, Bool.not_true, Bool.not_false, Bool.and_true, Bool.true_and, nmL_vi, flV_len, flP_len, flV_nm, flV_ok, flV_pv, flP_map, drop_flP, drop_flV, putC_flV, eqV2, eqV3, bneT, bneF, decide_true, decide_false, frzL_vi, frzL_flV, nmE_ag, nmE_at, frzE_ag, frzE_at, ofAg_len, ofAt_len, atL_vi, nmL_map_p, frzL_map_p, okL_p, toPVs_p, repsZ, nmL_reps, putC_vi, get_flV0, get_flV1, Int.toNat_zero, Int.toNat_one, Int.reduceToNat, eqV_slice, eqV_ptr, eqV_func, nilS, nilP, nilF, nmL_append, true_or, or_true, and_self, true_and, and_true, Option.some.injEq, reduceCtorEq, false_or, or_false, VV.p.injEq, PV.at.injEq, Value.int.injEq, sl1, vi, bl1, vb, nilV, slP])
  rintro n i ⟨hn, hi⟩
  simp only [inV, PT.set, slP]
  (repeat (first | refine VC.seq ?_ | refine VC.block ?_ | refine VC.kill ?_ | refine VC.skip ?_ | refine VC.exit ?_ | refine VC.regA ?_ | refine VC.condT ?_ | refine VC.condF ?_))
  refine VC.condA ?_ ?_ <;> intro h <;> (simp only [decide_eq_true_eq, decide_eq_false_iff_not, bne_iff_ne, ne_eq, bne_eq_false_iff_eq, beq_iff_eq, beq_eq_false_iff_ne, Bool.not_eq_true', Bool.not_eq_false', Bool.and_eq_true, Bool.or_eq_true, Int.natCast_inj] at h)
  · have h : i < w.length := by omega
    have hp := drop_flP h
    (repeat (first | refine VC.seq ?_ | refine VC.block ?_ | refine VC.kill ?_ | refine VC.skip ?_ | refine VC.exit ?_ | refine VC.regA ?_ | refine VC.condT ?_ | refine VC.condF ?_))
    refine ⟨_, i + 1, ?_, ⟨rfl, by omega⟩, ?_⟩
    · omega
    · (apply Go.Ab.V.G.weak; constructor <;> simp (config := {decide := true}) only [PT.Le, inV, mkB, PT.set, VSt.kill, VSt.adopt, VSt.alloc, PT.filt, PT.map, List.map_cons, List.map_nil, noref, norefB, deadB, deadV, nos, nm, nmL, nmB, nmE, Pa.eqb, cond_true, cond_false, Bool.not_true, Bool.not_false, Bool.and_true, Bool.true_and, nmL_vi, flV_len, flP_len, flV_nm, flV_ok, flV_pv, flP_map, drop_flP, drop_flV, putC_flV, eqV2, eqV3, bneT, bneF, decide_true, decide_false, frzL_vi, frzL_flV, nmE_ag, nmE_at, frzE_ag, frzE_at, ofAg_len, ofAt_len, atL_vi, nmL_map_p, frzL_map_p, okL_p, toPVs_p, repsZ, nmL_reps, putC_vi, get_flV0, get_flV1, Int.toNat_zero, Int.toNat_one, Int.reduceToNat, eqV_slice, eqV_ptr, eqV_func, nilS, nilP, nilF, nmL_append, true_or, or_true, and_self, true_and, and_true, Option.some.injEq, reduceCtorEq, false_or, or_false, VV.p.injEq, PV.at.injEq, Value.int.injEq, sl1, vi, bl1, vb, nilV, slP])
      (all_goals first | rfl | omega | exact ⟨rfl, by omega⟩)
  · (repeat (first | refine VC.seq ?_ | refine VC.block ?_ | refine VC.kill ?_ | refine VC.skip ?_ | refine VC.exit ?_ | refine VC.regA ?_ | refine VC.condT ?_ | refine VC.condF ?_))
    exact VC.ret (Fin.A rfl)
end Go.Ab.Jug

namespace Go.Ab.Jug
open Go.Ab.V
set_option maxRecDepth 100000
theorem isR_bd {n : Nat} {a b : Int} (h : isR n a b = true) : (-1 ≤ a ∧ a < n) ∧ (-1 ≤ b ∧ b < n) ∧ a ≠ b := by
  simp only [isR, inR, Bool.and_eq_true, decide_eq_true_eq] at h
  exact ⟨h.1.1, h.1.2, h.2⟩
theorem fillB_getD {x f : List Int} (hf : fillB x f = true) (i : Nat) : 0 ≤ f.getD i 0 ∧ f.getD i 0 ≤ x.getD i 0 := by
  rw [fillB_iff] at hf
  rcases Nat.lt_or_ge i x.length with h | h
  · have h' : i < f.length := by omega
    rw [List.getD_eq_getElem?_getD, List.getD_eq_getElem?_getD, List.getElem?_eq_getElem h, List.getElem?_eq_getElem h']
    exact hf.2 i h' h
  · rw [List.getD_eq_getElem?_getD, List.getD_eq_getElem?_getD, List.getElem?_eq_none h, List.getElem?_eq_none (by omega)]
    simp
theorem fillB_set {x f : List Int} (hf : fillB x f = true) (i : Nat) (v : Int) (h0 : 0 ≤ v) (h1 : v ≤ x.getD i 0) : fillB x (f.set i v) = true := by
  rw [fillB_iff] at hf ⊢
  refine ⟨by rw [List.length_set]; exact hf.1, fun k h h' => ?_⟩
  rw [List.length_set] at h
  rw [List.getElem_set]
  split
  · rename_i e
    subst e
    rw [List.getD_eq_getElem?_getD, List.getElem?_eq_getElem h'] at h1
    exact ⟨h0, h1⟩
  · exact hf.2 k h h'
theorem fill_step (x f : List Int) (a b : Int) (hf : fillB x f = true) (hab : a ≠ b) (ha : -1 ≤ a) (hb : -1 ≤ b) : fillB x (stepR x f a b) = true := by
  have g := fillB_getD hf
  have e : ∀ i, 0 ≤ x.getD i 0 := fun i => by have := g i; omega
  unfold stepR atQ
  split
  · exact fillB_set hf _ _ (e _) (Int.le_refl _)
  split
  · exact fillB_set hf _ _ (Int.le_refl _) (e _)
  · have g1 := g a.toNat
    have g2 := g b.toNat
    refine fillB_set (fillB_set hf _ _ ?_ ?_) _ _ ?_ ?_ <;> omega
end Go.Ab.Jug

namespace Go.Ab.Jug
open Go.Ab.V
set_option maxRecDepth 100000
/-- What is known of a filling that is reached. -/
structure En where
  g : List Int
  par : List Int
  st : Int × Int
  d : Nat
def succs (x : List Int) (c : Bool) (f : List Int) : List ((Int × Int) × List Int) := (allR x f c (x.length + 1)).map fun p => (p, stepR x f p.1 p.2)
def hasE (L : List En) (g : List Int) : Bool := L.any fun e => decide (e.g = g)
def addOne (f : List Int) (d : Nat) (L : List En) (s : (Int × Int) × List Int) : List En := if hasE L s.2 = true then L else L ++ [⟨s.2, f, s.1, d + 1⟩]
def addAll (f : List Int) (d : Nat) (L : List En) (ss : List ((Int × Int) × List Int)) : List En := ss.foldl (addOne f d) L
def root (x f : List Int) : En := ⟨f, List.replicate x.length 0, (0, 0), 0⟩
theorem hasE_iff {L : List En} {g : List Int} : hasE L g = true ↔ ∃ e ∈ L, e.g = g := by simp [hasE]
theorem addOne_pre (f : List Int) (d : Nat) (L : List En) (s : (Int × Int) × List Int) : L <+: addOne f d L s := by
  unfold addOne; split
  · exact List.prefix_refl _
  · exact List.prefix_append _ _
theorem addAll_cons (f : List Int) (d : Nat) (L : List En) (s : (Int × Int) × List Int) (ss : List ((Int × Int) × List Int)) : addAll f d L (s :: ss) = addAll f d (addOne f d L s) ss := rfl
/-- All that a list of entries is said to be. -/
structure Good (x : List Int) (c : Bool) (f0 : List Int) (L : List En) : Prop where
  nodup : (L.map En.g).Nodup
  fill : ∀ e ∈ L, fillB x e.g = true ∧ fillB x e.par = true ∨ e = root x f0
  root : L[0]? = some (root x f0)
  par : ∀ (k : Nat) (e : En), L[k]? = some e → 0 < k → ∃ j e', j < k ∧ L[j]? = some e' ∧ e'.g = e.par ∧ e.d = e'.d + 1 ∧ (e.st, e.g) ∈ succs x c e'.g
theorem succ_mem {x f : List Int} {c : Bool} {s : (Int × Int) × List Int} (h : s ∈ succs x c f) : isR x.length s.1.1 s.1.2 = true ∧ s.2 = stepR x f s.1.1 s.1.2 ∧ s.2 ≠ f ∧ (c = true → s.1.1 ≠ -1 ∧ s.1.2 ≠ -1) := by
  obtain ⟨p, hp, rfl⟩ := List.mem_map.1 h
  have hrow : ∀ a m, p ∈ rowR x f c a m → okR x f c p.1 p.2 = true := by
    intro a m
    induction m with
    | zero => intro h; simp [rowR] at h
    | succ m ih =>
      intro h
      simp only [rowR, List.mem_append] at h
      rcases h with h | h
      · unfold itR at h
        split at h
        · rename_i hk; rw [List.mem_singleton.1 h]; exact hk
        · simp at h
      · exact ih h
  have hall : ∀ k, p ∈ allR x f c k → okR x f c p.1 p.2 = true := by
    intro k
    induction k with
    | zero => intro h; simp [allR] at h
    | succ k ih =>
      intro h
      simp only [allR, List.mem_append] at h
      rcases h with h | h
      · exact hrow _ _ h
      · exact ih h
  have := hall _ hp
  simp only [okR, Bool.and_eq_true, Bool.not_eq_true', decide_eq_false_iff_not] at this
  refine ⟨this.1.2, rfl, fun e => this.2 e.symm, fun hc => ?_⟩
  have h1 := this.1.1
  rw [hc] at h1
  simp at h1
  exact h1
theorem succ_fill {x f : List Int} {c : Bool} {s : (Int × Int) × List Int} (h : s ∈ succs x c f) (hf : fillB x f = true) : fillB x s.2 = true := by
  obtain ⟨h1, h2, _⟩ := succ_mem h
  have := isR_bd h1
  rw [h2]; exact fill_step x f _ _ hf this.2.2 this.1.1 this.2.1.1
theorem Good.gfill {x f0 : List Int} {c : Bool} {L : List En} (G : Good x c f0 L) (h0 : fillB x f0 = true) {e : En} (he : e ∈ L) : fillB x e.g = true := by
  rcases G.fill e he with h | h
  · exact h.1
  · rw [h]; exact h0
theorem Good.one {x f0 : List Int} {c : Bool} {L : List En} (G : Good x c f0 L) (h0 : fillB x f0 = true) {j : Nat} {e' : En} (hj : L[j]? = some e') {s : (Int × Int) × List Int} (hs : s ∈ succs x c e'.g) : Good x c f0 (addOne e'.g e'.d L s) := by
  unfold addOne
  cases hh : hasE L s.2 with
  | true => rw [if_pos rfl]; exact G
  | false =>
    rw [if_neg (by simp)]
    have hjl := (List.getElem?_eq_some_iff.1 hj).1
    have hg' := G.gfill h0 (List.mem_of_getElem? hj)
    refine ⟨?_, fun e he => ?_, ?_, fun k e hk h => ?_⟩
    · rw [List.map_append, List.nodup_append]
      refine ⟨G.nodup, by simp, fun a ha b hb => ?_⟩
      obtain ⟨e, he, rfl⟩ := List.mem_map.1 ha
      simp at hb
      subst hb
      intro e1
      have : hasE L s.2 = true := hasE_iff.2 ⟨e, he, e1⟩
      rw [hh] at this; cases this
    · rcases List.mem_append.1 he with he | he
      · exact G.fill e he
      · rw [List.mem_singleton.1 he]; exact .inl ⟨succ_fill hs hg', hg'⟩
    · rw [List.getElem?_append_left (by omega)]; exact G.root
    · by_cases hkl : k < L.length
      · rw [List.getElem?_append_left hkl] at hk
        obtain ⟨j', e'', h1, h2, h3⟩ := G.par k e hk h
        exact ⟨j', e'', h1, by rw [List.getElem?_append_left (by omega)]; exact h2, h3⟩
      · rw [List.getElem?_append_right (by omega)] at hk
        have hkk : k - L.length = 0 := by
          rcases Nat.eq_zero_or_pos (k - L.length) with h | h
          · exact h
          · rw [List.getElem?_eq_none (by simp; omega)] at hk; cases hk
        rw [hkk] at hk
        simp at hk
        subst hk
        exact ⟨j, e', by omega, by rw [List.getElem?_append_left hjl]; exact hj, rfl, rfl, hs⟩
theorem Good.all {x f0 : List Int} {c : Bool} {e' : En} (h0 : fillB x f0 = true) {j : Nat} : ∀ (ss : List ((Int × Int) × List Int)) {L : List En}, Good x c f0 L → L[j]? = some e' → (∀ s ∈ ss, s ∈ succs x c e'.g) → Good x c f0 (addAll e'.g e'.d L ss)
  | [], L, G, _, _ => G
  | s :: ss, L, G, hj, hs => by
    rw [addAll_cons]
    refine Good.all (j := j) h0 ss (G.one h0 hj (hs s (by simp))) ?_ fun t ht => hs t (List.mem_cons_of_mem _ ht)
    have hp := addOne_pre e'.g e'.d L s
    obtain ⟨t, ht⟩ := hp
    rw [← ht, List.getElem?_append_left (List.getElem?_eq_some_iff.1 hj).1]; exact hj
/-! ### Codes -/
theorem pigeon : ∀ (m : Nat) (l : List Nat), l.Nodup → (∀ a ∈ l, a < m) → l.length ≤ m
  | 0, [], _, _ => Nat.le_refl _
  | 0, a :: l, _, h => absurd (h a (by simp)) (Nat.not_lt_zero a)
  | m + 1, l, hn, h => by
    have h1 := pigeon m (l.filter (fun a => decide (a ≠ m))) (hn.filter _) (fun a ha => by
      have := List.mem_filter.1 ha
      have h2 := h a this.1
      have h3 : a ≠ m := by simpa using this.2
      omega)
    have h2 : l.length ≤ (l.filter (fun a => decide (a ≠ m))).length + 1 := by
      clear h1 h
      induction l with
      | nil => simp
      | cons a l ih =>
        have hn' := List.nodup_cons.1 hn
        rw [List.filter_cons]
        by_cases ha : a = m
        · subst ha
          have : l.filter (fun b => decide (b ≠ a)) = l := List.filter_eq_self.2 fun b hb => by
            have : b ≠ a := fun e => hn'.1 (by rw [← e]; exact hb)
            simp [this]
          simp only [ne_eq, not_true_eq_false, decide_false, Bool.false_eq_true, if_false, List.length_cons]
          rw [show (l.filter fun b => decide ¬b = a) = l from this]; exact Nat.le_refl _
        · simp only [ha, ne_eq, not_false_eq_true, decide_true, if_true, List.length_cons]
          have := ih hn'.2
          simp only [ne_eq] at this
          omega
    omega
end Go.Ab.Jug

namespace Go.Ab.Jug
theorem sq_add (a b n m : Nat) : sq a b (n + m) = itn a b m (sq a b n) := by unfold sq; rw [itn_add]
def hit (a b m n : Nat) : Prop := (sq a b n).1 = m ∨ (sq a b n).2 = m
/-- The least hit comes soon: no state comes twice before it. -/
theorem least_bd {a b m N : Nat} (hN : hit a b m N) (hno : ∀ k, k < N → ¬hit a b m k) : N ≤ (a + 1) * (b + 1) := by
  have h := pigeon ((a + 1) * (b + 1)) ((List.range N).map fun k => (sq a b k).1 * (b + 1) + (sq a b k).2) ?_ ?_
  · simpa using h
  · rw [List.Nodup, List.pairwise_iff_getElem]
    intro i j hi hj hij
    simp only [List.length_map, List.length_range] at hi hj
    simp only [List.getElem_map, List.getElem_range]
    intro e
    have b1 := sq_bd a b i
    have b2 := sq_bd a b j
    have e2 : (sq a b i).2 = (sq a b j).2 := by
      have h1 : ((sq a b i).1 * (b + 1) + (sq a b i).2) % (b + 1) = (sq a b i).2 := by rw [Nat.add_comm, Nat.add_mul_mod_self_right]; exact Nat.mod_eq_of_lt (by omega)
      have h2 : ((sq a b j).1 * (b + 1) + (sq a b j).2) % (b + 1) = (sq a b j).2 := by rw [Nat.add_comm, Nat.add_mul_mod_self_right]; exact Nat.mod_eq_of_lt (by omega)
      rw [← h1, ← h2, e]
    have e1 : (sq a b i).1 = (sq a b j).1 := by
      rw [e2] at e
      have e : (sq a b i).1 * (b + 1) = (sq a b j).1 * (b + 1) := by omega
      exact Nat.eq_of_mul_eq_mul_right (by omega) e
    have e0 : sq a b i = sq a b j := Prod.ext e1 e2
    have : sq a b (i + (N - j)) = sq a b N := by
      rw [sq_add, e0, ← sq_add]; congr 1; omega
    exact hno (i + (N - j)) (by omega) (by unfold hit; rw [this]; exact hN)
  · intro c hc
    obtain ⟨k, _, rfl⟩ := List.mem_map.1 hc
    have b1 := sq_bd a b k
    have : (sq a b k).1 * (b + 1) ≤ a * (b + 1) := Nat.mul_le_mul_right _ b1.1
    rw [Nat.succ_mul]; omega
/-- What is measured, and when. -/
theorem measure_at {a b m : Nat} (ha : 0 < a ∧ a ≤ 1000) (hb : 0 < b ∧ b ≤ 1000) (hm : m ≤ max a b) (hg : Nat.gcd a b ∣ m) : ∃ N, hit a b m N ∧ (∀ k, k < N → ¬hit a b m k) ∧ N ≤ 1002001 := by
  obtain ⟨N, h1, h2⟩ := least (P := hit a b m) (hits ha.1 hb.1 hm hg)
  refine ⟨N, h1, h2, ?_⟩
  have := least_bd h1 h2
  have h3 : (a + 1) * (b + 1) ≤ 1001 * 1001 := Nat.mul_le_mul (by omega) (by omega)
  omega
end Go.Ab.Jug

namespace Go.Ab.Jug
open Go.Ab.V
set_option maxRecDepth 100000
def wayU (l : Nat → Int × Int) (i : Nat) : List (Int × Int) := (List.range i).map l
theorem wayU_succ (l : Nat → Int × Int) (i : Nat) : wayU l (i + 1) = wayU l i ++ [((l i).1, (l i).2)] := by unfold wayU; rw [List.range_succ, List.map_append]; rfl
theorem wayU_len (l : Nat → Int × Int) (i : Nat) : (wayU l i).length = i := by simp [wayU]
set_option maxHeartbeats 4000000 in
theorem pairWay_ok (a b : Nat) (one : Int) (u v : Nat → Nat) (l : Nat → Int × Int) (m N : Nat) (hNm : N ≤ 1002001) (ha : a ≤ 1000) (hb : b ≤ 1000) (hm : m ≤ 1000) (hu : ∀ i, u i ≤ a) (hv : ∀ i, v i ≤ b) (hu0 : u 0 = 0) (hv0 : v 0 = 0)
    (hno : ∀ i, i < N → u i ≠ m ∧ v i ≠ m) (hN : u N = m ∨ v N = m)
    (kn : ∀ i, VCall cfg 68 [.agg (pairL a b one), .agg [vi (u i), vi (v i), vi 0, vi 0]] [] [] (ag2 (l i).1 (l i).2) [])
    (kd : ∀ i, VCall cfg 62 [ag2 (l i).1 (l i).2, .p (.fp 0 (pairP a b one)), .agg [vi (u i), vi (v i), vi 0, vi 0]] [] [] (.agg [vi (u (i + 1)), vi (v (i + 1)), vi 0, vi 0]) []) :
    VCall cfg 55 [.agg (pairL a b one), vi m] [] [] (slP (wayU l N)) [] := by
  simp only [pairL, pairP, ag2] at kn kd ⊢
  (refine VCall.mk (fn := a55) rfl rfl rfl ?_; simp only [a55, inV, mkB, nmsL, PT.set])
  (repeat (first | refine VC.seq ?_ | refine VC.block ?_ | refine VC.kill ?_ | refine VC.skip ?_ | refine VC.exit ?_ | refine VC.regA ?_ | refine VC.condT ?_ | refine VC.condF ?_))
  refine VC.frzA p2 ?_
  simp only [VSt.frz, PT.map, frzE_at, frzE_ag, frzL, frzV, frzB, Pa.eqb, cond_true, cond_false, VSt.kill, PT.filt, Option.map_some, Option.map_none, List.map_cons, List.map_nil]
  refine VC.loopG (fun (i : Nat) => ⟨inV [p1, p2, p5, p6, p7] [vi m, .p (.fp 0 (pairP a b one)), .os 2 p32 i, .clos 68 [.agg (pairL a b one)] [], .op 0 p7 0] .lf, mkB [(p32, .cells (flV (wayU l i))), (p7, .cells [vi (u i), vi (v i), vi 0, vi 0])] .lf, [], none⟩) (fun n i => n = N - i ∧ i ≤ N) (x := 0) ?_ ⟨rfl, Nat.zero_le _⟩ ?_
  · refine G.adoptA (p := p5) 2 p32 ?_
    rw [hu0, hv0]
    (apply Go.Ab.V.G.weak; constructor <;> simp (config := {decide := true}) only [PT.Le, inV, mkB, PT.set, VSt.kill, VSt.adopt, VSt.alloc, PT.filt, PT.map, List.map_cons, List.map_nil, noref, norefB, deadB, deadV, nos, nm, nmL, nmB, nmE, Pa.eqb, cond_true, cond_false, Bool.not_true, Bool.not_false, Bool.and_true, Bool.true_and, nmL_vi, flV_len, flP_len, flV_nm, flV_ok, flV_pv, flP_map, drop_flP, drop_flV, putC_flV, eqV2, eqV3, bneT, bneF, decide_true, decide_false, frzL_vi, frzL_flV, nmE_ag, nmE_at, frzE_ag, frzE_at, ofAg_len, ofAt_len, atL_vi, nmL_map_p, frzL_map_p, okL_p, toPVs_p, repsZ, nmL_reps, putC_vi, get_flV0, get_flV1, Int.toNat_zero, Int.toNat_one, Int.reduceToNat, eqV_slice, eqV_ptr, eqV_func, nilS, nilP, nilF, nmL_append, true_or, or_true, and_self, true_and, and_true, Option.some.injEq, reduceCtorEq, false_or, or_false, VV.p.injEq, PV.at.injEq, Value.int.injEq, sl1, vi, bl1, vb, nilV, pi, pairP, pairL])
    all_goals first | rfl | omega | exact .inl rfl | exact ⟨rfl, by omega⟩ | ((repeat' apply And.intro) <;> first | rfl | exact .inl rfl)
  rintro n i ⟨hn, hi⟩
  simp only [inV, PT.set, mkB, pairP, pairL]
  have kn := kn i
  have kd := kd i
  have hui := hu i
  have hvi := hv i
  have hwl := wayU_len l i
  have hfl := flV_snoc (wayU l i) (l i).1 (l i).2
  have hws := wayU_succ l i
  have hl2 := flV_len (wayU l i)
  have hnm := flV_nm (wayU l i)
  by_cases h : i < N
  · obtain ⟨h1, h2⟩ := hno i h
    (repeat (first | refine VC.seq ?_ | refine VC.block ?_ | refine VC.kill ?_ | refine VC.skip ?_ | refine VC.exit ?_ | refine VC.regA ?_ | refine VC.condT ?_ | refine VC.condF ?_))
    (refine VC.regCA ?_; refine VO.moreA ?_; refine VO.call0A (no_orc _ (by decide)) kn ?_; refine VO.endA ?_; (repeat (first | refine VC.seq ?_ | refine VC.block ?_ | refine VC.kill ?_ | refine VC.skip ?_ | refine VC.exit ?_ | refine VC.regA ?_ | refine VC.condT ?_ | refine VC.condF ?_)))
    refine VC.regCA ?_
    refine VO.moreA ?_
    refine VO.call0A (no_orc 62 (by decide)) kd ?_
    refine VO.endA ?_
    (repeat (first | refine VC.seq ?_ | refine VC.block ?_ | refine VC.kill ?_ | refine VC.skip ?_ | refine VC.exit ?_ | refine VC.regA ?_ | refine VC.condT ?_ | refine VC.condF ?_))
    refine ⟨_, i + 1, ?_, ⟨rfl, by omega⟩, ?_⟩
    · omega
    · (apply Go.Ab.V.G.weak; constructor <;> simp (config := {decide := true}) only [PT.Le, inV, mkB, PT.set, VSt.kill, VSt.adopt, VSt.alloc, PT.filt, PT.map, List.map_cons, List.map_nil, noref, norefB, deadB, deadV, nos, nm, nmL, nmB, nmE, Pa.eqb, cond_true, cond_false, Bool.not_true, Bool.not_false, Bool.and_true, Bool.true_and, nmL_vi, flV_len, flP_len, flV_nm, flV_ok, flV_pv, flP_map, drop_flP, drop_flV, putC_flV, eqV2, eqV3, bneT, bneF, decide_true, decide_false, frzL_vi, frzL_flV, nmE_ag, nmE_at, frzE_ag, frzE_at, ofAg_len, ofAt_len, atL_vi, nmL_map_p, frzL_map_p, okL_p, toPVs_p, repsZ, nmL_reps, putC_vi, get_flV0, get_flV1, Int.toNat_zero, Int.toNat_one, Int.reduceToNat, eqV_slice, eqV_ptr, eqV_func, nilS, nilP, nilF, nmL_append, true_or, or_true, and_self, true_and, and_true, Option.some.injEq, reduceCtorEq, false_or, or_false, VV.p.injEq, PV.at.injEq, Value.int.injEq, sl1, vi, bl1, vb, nilV, pi, hws, hfl])
      (all_goals first | rfl | omega | exact ⟨rfl, by omega⟩)
  · have : i = N := by omega
    subst this
    by_cases h1 : u i = m
    · (repeat (first | refine VC.seq ?_ | refine VC.block ?_ | refine VC.kill ?_ | refine VC.skip ?_ | refine VC.exit ?_ | refine VC.regA ?_ | refine VC.condT ?_ | refine VC.condF ?_))
      refine VC.ret (Fin.frzA p32 (hb := rfl) (hc := flV_pv _) (Fin.A ?_))
      rw [slP, hwl]; rfl
    · have h2 : v i = m := hN.resolve_left h1
      (repeat (first | refine VC.seq ?_ | refine VC.block ?_ | refine VC.kill ?_ | refine VC.skip ?_ | refine VC.exit ?_ | refine VC.regA ?_ | refine VC.condT ?_ | refine VC.condF ?_))
      refine VC.ret (Fin.frzA p32 (hb := rfl) (hc := flV_pv _) (Fin.A ?_))
      rw [slP, hwl]; rfl
end Go.Ab.Jug

namespace Go.Ab.Jug
open Go.Ab.V
set_option maxRecDepth 100000
set_option maxHeartbeats 1000000 in
theorem do2_ok_0  {a b u v : Nat} (ha : a ≤ 1000) (hb : b ≤ 1000) (hu : u ≤ a) (hv : v ≤ b) (h1 : u = a) : VCall cfg 62 [.agg [vi 0, vi (-1)], .p (.fp 0 [pi 2, pi a, pi b, pi 0, pi 0, .at (.bool false), pi 1]), .agg [vi u, vi v, vi 0, vi 0]] [] [] (.agg [vi 0, vi (v : Nat), vi 0, vi 0]) [] := by
  (refine VCall.mk (fn := a62) rfl rfl rfl ?_; simp only [a62, inV, mkB, nmsL, PT.set])
  (repeat (first | refine VC.seq ?_ | refine VC.block ?_ | refine VC.kill ?_ | refine VC.skip ?_ | refine VC.exit ?_ | refine VC.regA ?_ | refine VC.condT ?_ | refine VC.condF ?_))
  exact VC.ret (Fin.A (hys := rfl) rfl)
set_option maxHeartbeats 1000000 in
theorem do2_ok_1  {a b u v : Nat} (ha : a ≤ 1000) (hb : b ≤ 1000) (hu : u ≤ a) (hv : v ≤ b) (h1 : ¬u = a) (h2 : v = 0) : VCall cfg 62 [.agg [vi (-1), vi 1], .p (.fp 0 [pi 2, pi a, pi b, pi 0, pi 0, .at (.bool false), pi 1]), .agg [vi u, vi v, vi 0, vi 0]] [] [] (.agg [vi (u : Nat), vi (b : Nat), vi 0, vi 0]) [] := by
  (refine VCall.mk (fn := a62) rfl rfl rfl ?_; simp only [a62, inV, mkB, nmsL, PT.set])
  (repeat (first | refine VC.seq ?_ | refine VC.block ?_ | refine VC.kill ?_ | refine VC.skip ?_ | refine VC.exit ?_ | refine VC.regA ?_ | refine VC.condT ?_ | refine VC.condF ?_))
  exact VC.ret (Fin.A (hys := rfl) rfl)
set_option maxHeartbeats 1000000 in
theorem do2_ok_2  {a b u v : Nat} (ha : a ≤ 1000) (hb : b ≤ 1000) (hu : u ≤ a) (hv : v ≤ b) (h1 : ¬u = a) (h2 : ¬v = 0) : VCall cfg 62 [.agg [vi 1, vi 0], .p (.fp 0 [pi 2, pi a, pi b, pi 0, pi 0, .at (.bool false), pi 1]), .agg [vi u, vi v, vi 0, vi 0]] [] [] (.agg [vi ((u : Int) + min (v : Int) ((a : Int) - u)), vi ((v : Int) - min (v : Int) ((a : Int) - u)), vi 0, vi 0]) [] := by
  (refine VCall.mk (fn := a62) rfl rfl rfl ?_; simp only [a62, inV, mkB, nmsL, PT.set])
  (repeat (first | refine VC.seq ?_ | refine VC.block ?_ | refine VC.kill ?_ | refine VC.skip ?_ | refine VC.exit ?_ | refine VC.regA ?_ | refine VC.condT ?_ | refine VC.condF ?_))
  exact VC.ret (Fin.A (hys := rfl) rfl)
theorem do2_ok  {a b u v : Nat} (ha : a ≤ 1000) (hb : b ≤ 1000) (hu : u ≤ a) (hv : v ≤ b) : VCall cfg 62 [ag2 (lab false a (v, u)).1 (lab false a (v, u)).2, .p (.fp 0 (pairP a b 1)), .agg [vi u, vi v, vi 0, vi 0]] [] [] (.agg [vi (nx b a (v, u)).2, vi (nx b a (v, u)).1, vi 0, vi 0]) [] := by
  by_cases h1 : u = a
  · have e : lab false a (v, u) = (0, (-1)) := by simp [lab, h1]
    have e2 : nx b a (v, u) = (v, 0) := by simp [nx, h1]
    rw [e, e2]
    exact do2_ok_0 ha hb hu hv h1
  · by_cases h2 : v = 0
    · have e : lab false a (v, u) = ((-1), 1) := by simp [lab, h1, h2]
      have e2 : nx b a (v, u) = (b, u) := by simp [nx, h1, h2]
      rw [e, e2]
      exact do2_ok_1 ha hb hu hv h1 h2
    · have e : lab false a (v, u) = (1, 0) := by simp [lab, h1, h2]
      have e2 : nx b a (v, u) = (v - min v (a - u), u + min v (a - u)) := by simp [nx, h1, h2]
      have e3 : ((v - min v (a - u) : Nat) : Int) = (v : Int) - min (v : Int) ((a : Int) - u) := by omega
      have e4 : ((u + min v (a - u) : Nat) : Int) = (u : Int) + min (v : Int) ((a : Int) - u) := by omega
      have k := do2_ok_2 ha hb hu hv h1 h2
      rw [← e3, ← e4] at k
      rw [e, e2]
      exact k
end Go.Ab.Jug

namespace Go.Ab.Jug
open Go.Ab.V
set_option maxRecDepth 100000
/-- The way of two jugs, by which one is filled. -/
def lT (a b : Nat) (first : Bool) (i : Nat) : Int × Int := if first then lab true b (sq a b i) else lab false a (sq b a i)
def hitT (a b m : Nat) (first : Bool) (i : Nat) : Prop := if first then hit a b m i else hit b a m i
theorem way2_ok (a b m : Nat) (first : Bool) (N : Nat) (ha : a ≤ 1000) (hb : b ≤ 1000) (hm : m ≤ 1000) (hNm : N ≤ 1002001) (hN : hitT a b m first N) (hno : ∀ k, k < N → ¬hitT a b m first k) : VCall cfg 55 [.agg (pairL a b (if first then 0 else 1)), vi m] [] [] (slP (wayU (lT a b first) N)) [] := by
  cases first with
  | true =>
    simp only [hitT, if_true, hit] at hN hno
    exact pairWay_ok a b 0 (fun i => (sq a b i).1) (fun i => (sq a b i).2) (lT a b true) m N hNm ha hb hm (fun i => (sq_bd a b i).1) (fun i => (sq_bd a b i).2) rfl rfl
      (fun i hi => ⟨fun e => hno i hi (.inl e), fun e => hno i hi (.inr e)⟩) hN
      (fun i => next1_ok ha hb (sq_bd a b i).1 (sq_bd a b i).2)
      (fun i => by
        have := do1_ok ha hb (sq_bd a b i).1 (sq_bd a b i).2
        simp only [sq_succ]
        exact this)
  | false =>
    simp only [hitT, Bool.false_eq_true, if_false, hit] at hN hno
    exact pairWay_ok a b 1 (fun i => (sq b a i).2) (fun i => (sq b a i).1) (lT a b false) m N hNm ha hb hm (fun i => (sq_bd b a i).2) (fun i => (sq_bd b a i).1) rfl rfl
      (fun i hi => ⟨fun e => hno i hi (.inr e), fun e => hno i hi (.inl e)⟩) hN.symm
      (fun i => next2_ok ha hb (sq_bd b a i).2 (sq_bd b a i).1)
      (fun i => by
        have := do2_ok ha hb (sq_bd b a i).2 (sq_bd b a i).1
        simp only [sq_succ]
        exact this)
theorem okT_nat {a b m : Int} (h : okT a b m) : ∃ A B M : Nat, a = A ∧ b = B ∧ m = M ∧ 1 ≤ A ∧ A ≤ 1000 ∧ 1 ≤ B ∧ B ≤ 1000 ∧ M ≤ max A B := by
  unfold okT at h
  exact ⟨a.toNat, b.toNat, m.toNat, by omega, by omega, by omega, by omega, by omega, by omega, by omega, by omega⟩
theorem hits2 {a b m : Nat} (h1 : 1 ≤ a ∧ a ≤ 1000) (h2 : 1 ≤ b ∧ b ≤ 1000) (hm : m ≤ max a b) (hg : m % Nat.gcd a b = 0) (first : Bool) : ∃ N, hitT a b m first N ∧ (∀ k, k < N → ¬hitT a b m first k) ∧ N ≤ 1002001 := by
  have hd := Nat.dvd_of_mod_eq_zero hg
  cases first with
  | true => simpa [hitT] using measure_at (a := a) (b := b) (m := m) ⟨by omega, by omega⟩ ⟨by omega, by omega⟩ hm hd
  | false => simpa [hitT] using measure_at (a := b) (b := a) (m := m) ⟨by omega, by omega⟩ ⟨by omega, by omega⟩ (by omega) (by rw [Nat.gcd_comm]; exact hd)
theorem Two_no (a b m : Int) (h : ¬okT a b m) (hm : -9223372036854775808 ≤ m ∧ m ≤ 9223372036854775807) : VCall cfg 25 [vi a, vi b, vi m] [] [] (.tup [vi 0, vb false, vi 1]) [] := by
  have k := checkTwo_no a b m h
  (refine VCall.mk (fn := a25) rfl rfl rfl ?_; simp only [a25, inV, mkB, nmsL, PT.set])
  (repeat (first | refine VC.seq ?_ | refine VC.block ?_ | refine VC.kill ?_ | refine VC.skip ?_ | refine VC.exit ?_ | refine VC.regA ?_ | refine VC.condT ?_ | refine VC.condF ?_))
  (refine VC.regCA ?_; refine VO.moreA ?_; refine VO.call0A (no_orc _ (by decide)) k ?_; refine VO.endA ?_; (repeat (first | refine VC.seq ?_ | refine VC.block ?_ | refine VC.kill ?_ | refine VC.skip ?_ | refine VC.exit ?_ | refine VC.regA ?_ | refine VC.condT ?_ | refine VC.condF ?_)))
  exact VC.ret (Fin.A rfl)
theorem TwoWay_no (a b m : Int) (first : Bool) (h : ¬okT a b m) : VCall cfg 26 [vi a, vi b, vi m, vb first] [] [] (.tup [nilV, vb false, vi 1]) [] := by
  have k := checkTwo_no a b m h
  (refine VCall.mk (fn := a26) rfl rfl rfl ?_; simp only [a26, inV, mkB, nmsL, PT.set])
  (repeat (first | refine VC.seq ?_ | refine VC.block ?_ | refine VC.kill ?_ | refine VC.skip ?_ | refine VC.exit ?_ | refine VC.regA ?_ | refine VC.condT ?_ | refine VC.condF ?_))
  (refine VC.regCA ?_; refine VO.moreA ?_; refine VO.call0A (no_orc _ (by decide)) k ?_; refine VO.endA ?_; (repeat (first | refine VC.seq ?_ | refine VC.block ?_ | refine VC.kill ?_ | refine VC.skip ?_ | refine VC.exit ?_ | refine VC.regA ?_ | refine VC.condT ?_ | refine VC.condF ?_)))
  exact VC.ret (Fin.A rfl)
theorem Two_un (a b m : Nat) (h : okT a b m) (hd : ¬ m % Nat.gcd a b = 0) : VCall cfg 25 [vi a, vi b, vi m] [] [] (.tup [vi 0, vb false, vi 0]) [] := by
  have k := checkTwo_ok a b m h
  rw [decide_eq_false hd] at k
  (refine VCall.mk (fn := a25) rfl rfl rfl ?_; simp only [a25, inV, mkB, nmsL, PT.set])
  (repeat (first | refine VC.seq ?_ | refine VC.block ?_ | refine VC.kill ?_ | refine VC.skip ?_ | refine VC.exit ?_ | refine VC.regA ?_ | refine VC.condT ?_ | refine VC.condF ?_))
  (refine VC.regCA ?_; refine VO.moreA ?_; refine VO.call0A (no_orc _ (by decide)) k ?_; refine VO.endA ?_; (repeat (first | refine VC.seq ?_ | refine VC.block ?_ | refine VC.kill ?_ | refine VC.skip ?_ | refine VC.exit ?_ | refine VC.regA ?_ | refine VC.condT ?_ | refine VC.condF ?_)))
  exact VC.ret (Fin.A rfl)
theorem TwoWay_un (a b m : Nat) (first : Bool) (h : okT a b m) (hd : ¬ m % Nat.gcd a b = 0) : VCall cfg 26 [vi a, vi b, vi m, vb first] [] [] (.tup [nilV, vb false, vi 0]) [] := by
  have k := checkTwo_ok a b m h
  rw [decide_eq_false hd] at k
  (refine VCall.mk (fn := a26) rfl rfl rfl ?_; simp only [a26, inV, mkB, nmsL, PT.set])
  (repeat (first | refine VC.seq ?_ | refine VC.block ?_ | refine VC.kill ?_ | refine VC.skip ?_ | refine VC.exit ?_ | refine VC.regA ?_ | refine VC.condT ?_ | refine VC.condF ?_))
  (refine VC.regCA ?_; refine VO.moreA ?_; refine VO.call0A (no_orc _ (by decide)) k ?_; refine VO.endA ?_; (repeat (first | refine VC.seq ?_ | refine VC.block ?_ | refine VC.kill ?_ | refine VC.skip ?_ | refine VC.exit ?_ | refine VC.regA ?_ | refine VC.condT ?_ | refine VC.condF ?_)))
  exact VC.ret (Fin.A rfl)
theorem TwoWay_ok (a b m : Nat) (first : Bool) (N : Nat) (h : okT a b m) (hd : m % Nat.gcd a b = 0) (hNm : N ≤ 1002001) (hN : hitT a b m first N) (hno : ∀ k, k < N → ¬hitT a b m first k) : VCall cfg 26 [vi a, vi b, vi m, vb first] [] [] (.tup [slP (wayU (lT a b first) N), vb true, vi 0]) [] := by
  have k := checkTwo_ok a b m h
  rw [decide_eq_true hd] at k
  have k2 := newPair_ok a b first
  have k3 := way2_ok a b m first N (by unfold okT at h; omega) (by unfold okT at h; omega) (by unfold okT at h; omega) hNm hN hno
  simp only [pairL] at k2 k3
  (refine VCall.mk (fn := a26) rfl rfl rfl ?_; simp only [a26, inV, mkB, nmsL, PT.set])
  (repeat (first | refine VC.seq ?_ | refine VC.block ?_ | refine VC.kill ?_ | refine VC.skip ?_ | refine VC.exit ?_ | refine VC.regA ?_ | refine VC.condT ?_ | refine VC.condF ?_))
  (refine VC.regCA ?_; refine VO.moreA ?_; refine VO.call0A (no_orc _ (by decide)) k ?_; refine VO.endA ?_; (repeat (first | refine VC.seq ?_ | refine VC.block ?_ | refine VC.kill ?_ | refine VC.skip ?_ | refine VC.exit ?_ | refine VC.regA ?_ | refine VC.condT ?_ | refine VC.condF ?_)))
  refine VC.regCA ?_
  refine VO.moreA ?_
  refine VO.call0A (no_orc 54 (by decide)) k2 ?_
  refine VO.moreA ?_
  refine VO.call0A (no_orc 55 (by decide)) k3 ?_
  refine VO.endA ?_
  (repeat (first | refine VC.seq ?_ | refine VC.block ?_ | refine VC.kill ?_ | refine VC.skip ?_ | refine VC.exit ?_ | refine VC.regA ?_ | refine VC.condT ?_ | refine VC.condF ?_))
  exact VC.ret (Fin.A rfl)
theorem Two_ok (a b m : Nat) (N M : Nat) (h : okT a b m) (hd : m % Nat.gcd a b = 0) (hNm : N ≤ 1002001) (hN : hitT a b m true N) (hno : ∀ k, k < N → ¬hitT a b m true k) (hMm : M ≤ 1002001) (hM : hitT a b m false M) (hnoM : ∀ k, k < M → ¬hitT a b m false k) : VCall cfg 25 [vi a, vi b, vi m] [] [] (.tup [vi ((min N M : Nat) : Int), vb true, vi 0]) [] := by
  have k := checkTwo_ok a b m h
  rw [decide_eq_true hd] at k
  have k2 := newPair_ok a b true
  have k3 := way2_ok a b m true N (by unfold okT at h; omega) (by unfold okT at h; omega) (by unfold okT at h; omega) hNm hN hno
  have k4 := newPair_ok a b false
  have k5 := way2_ok a b m false M (by unfold okT at h; omega) (by unfold okT at h; omega) (by unfold okT at h; omega) hMm hM hnoM
  have e1 := wayU_len (lT a b true) N
  have e2 := wayU_len (lT a b false) M
  simp only [pairL, slP, e1, e2] at k2 k3 k4 k5
  (refine VCall.mk (fn := a25) rfl rfl rfl ?_; simp only [a25, inV, mkB, nmsL, PT.set])
  (repeat (first | refine VC.seq ?_ | refine VC.block ?_ | refine VC.kill ?_ | refine VC.skip ?_ | refine VC.exit ?_ | refine VC.regA ?_ | refine VC.condT ?_ | refine VC.condF ?_))
  (refine VC.regCA ?_; refine VO.moreA ?_; refine VO.call0A (no_orc _ (by decide)) k ?_; refine VO.endA ?_; (repeat (first | refine VC.seq ?_ | refine VC.block ?_ | refine VC.kill ?_ | refine VC.skip ?_ | refine VC.exit ?_ | refine VC.regA ?_ | refine VC.condT ?_ | refine VC.condF ?_)))
  refine VC.regCA ?_
  refine VO.moreA ?_
  refine VO.call0A (no_orc 54 (by decide)) k2 ?_
  refine VO.moreA ?_
  refine VO.call0A (no_orc 55 (by decide)) k3 ?_
  refine VO.moreA ?_
  refine VO.call0A (no_orc 54 (by decide)) k4 ?_
  refine VO.moreA ?_
  refine VO.call0A (no_orc 55 (by decide)) k5 ?_
  refine VO.endA ?_
  (repeat (first | refine VC.seq ?_ | refine VC.block ?_ | refine VC.kill ?_ | refine VC.skip ?_ | refine VC.exit ?_ | refine VC.regA ?_ | refine VC.condT ?_ | refine VC.condF ?_))
  exact VC.ret (Fin.A rfl)
theorem Measurable_ok (a b m : Nat) (h : okT a b m) : VCall cfg 27 [vi a, vi b, vi m] [] [] (vb (decide (m % Nat.gcd a b = 0))) [] := by
  have k := gcdR_ok a b (by unfold okT at h; omega) (by unfold okT at h; omega)
  have hg : 0 < Nat.gcd a b := Nat.gcd_pos_of_pos_left _ (by unfold okT at h; omega)
  have hg2 : Nat.gcd a b ≤ a := Nat.gcd_le_left _ (by unfold okT at h; omega)
  have hm : m ≤ 1000 := by unfold okT at h; omega
  have ha : a ≤ 1000 := by unfold okT at h; omega
  generalize Nat.gcd a b = g at *
  (refine VCall.mk (fn := a27) rfl rfl rfl ?_; simp only [a27, inV, mkB, nmsL, PT.set])
  (repeat (first | refine VC.seq ?_ | refine VC.block ?_ | refine VC.kill ?_ | refine VC.skip ?_ | refine VC.exit ?_ | refine VC.regA ?_ | refine VC.condT ?_ | refine VC.condF ?_))
  refine VC.regCA ?_
  refine VO.moreA ?_
  refine VO.call0A (no_orc 56 (by decide)) k ?_
  have e1 : ((m : Int) % (g : Int)) = ((m % g : Nat) : Int) := rfl
  apply VO.uptoE
  · (simp (config := {decide := false, maxSteps := 1000000}) (disch := omega) only [vev_call, putC_c0, putC_n0, putC_cs, ble0, List.getElem?_cons_zero, List.getElem?_cons_succ, runU, isCall, wantV, vev, evV, ofVal, ofAtom, atomB, cond_true, cond_false, PT.get, PT.set, PT.filt, PT.map, Option.getD_some, Option.getD_none, ret1V, ret1X, v_ld, v_ias, v_iad, v_fad, v_slsl, v_slarr, v_st, v_app, v_cpy, v_len, v_look, v_mset, elsV, partV, newV, free, atV, atI, atL, toVal, cellsV, okV, VSt.put, VSt.kill, VSt.alloc, VSt.frz, VSt.adopt, noref, norefB, deadB, deadV, nos, nm, nmL, nmB, nmE, Pa.eqb, Bool.not_false, Bool.not_true, Bool.and_true, Bool.true_and, Bool.false_and, Bool.and_false, bin, intOps, intBin, cvt, un, goInt, bndsV, bndV, Option.map_some, Option.map_none, List.map_cons, List.map_nil, Int.toNat_natCast, Nat.mul_one, Nat.zero_add, beq_true, beq_false, beq_self_eq_true, List.length_map, List.length_cons, List.length_nil, List.length_append, fillV, pEvV, repsV, List.append_nil, List.nil_append, if_pos, if_neg, reduceIte, List.getElem?_map, List.getElem?_drop, Nat.add_zero, List.getElem?_eq_getElem, Go.IntWalk.i64_in, wrap_u64, tmod_pos, eq_self, true_and, and_true, and_self, List.all_cons, List.all_nil, nmL_vi, flV_len, flP_len, flV_nm, flV_ok, flV_pv, flP_map, drop_flP, drop_flV, putC_flV, eqV2, eqV3, bneT, bneF, decide_true, decide_false, frzL_vi, frzL_flV, nmE_ag, nmE_at, frzE_ag, frzE_at, ofAg_len, ofAt_len, atL_vi, nmL_map_p, frzL_map_p, okL_p, toPVs_p, repsZ, nmL_reps, putC_vi, get_flV0, get_flV1, Int.toNat_zero, Int.toNat_one, Int.reduceToNat, eqV_slice, eqV_ptr, eqV_func, nilS, nilP, nilF, nmL_append, okL_vi, toPVs_vi, toPVs, toPV, frzV, frzL, frzB, resVV, vi, vb, nilV, sl1, bl1, pi, foldV, max2, min2, max_eq, min_eq, Int.tdiv_eq_ediv_of_nonneg, Int.cast_ofNat_Int, Option.isSome_none, Option.isSome_some, Option.isNone_none, Option.isNone_some, and_false, false_and, sl2, sl1P, slP, min_cast, take_map_pi, map_pi, Nat.sub_zero, Nat.zero_mul, List.length_take, decide_eq_true, decide_eq_false, Bool.true_eq_false, Bool.false_eq_true, beqT, beqF, ibeq, ibne, List.take_zero, List.take_succ_cons, List.drop_zero, List.drop_succ_cons, List.drop_nil, List.take_nil, List.cons_append, Bool.not_true, Bool.not_false, e1])
    rfl
  have e2 : ((m % g : Nat) : Int) = 0 ↔ m % g = 0 := by omega
  (repeat (first | refine VC.seq ?_ | refine VC.block ?_ | refine VC.kill ?_ | refine VC.skip ?_ | refine VC.exit ?_ | refine VC.regA ?_ | refine VC.condT ?_ | refine VC.condF ?_))
  refine VC.ret (Fin.A ?_)
  simp only [e2]
  rfl
end Go.Ab.Jug

namespace Go.Ab.Jug
open Go.Ab.V
set_option maxRecDepth 100000
set_option maxHeartbeats 4000000 in
/-- The reference's way, by what its rounds are. -/
theorem wayR_gen (a b : Nat) (first : Bool) (one two : Int) (h12 : one = (if first then 0 else 1) ∧ two = (if first then 1 else 0)) (u v : Nat → Nat) (l : Nat → Int × Int) (m N : Nat) (hNm : N ≤ 1002001) (ha : a ≤ 1000) (hb : b ≤ 1000) (hm : m ≤ 1000) (hu : ∀ i, u i ≤ a) (hv : ∀ i, v i ≤ b) (hu0 : u 0 = 0) (hv0 : v 0 = 0)
    (hno : ∀ i, i < N → u i ≠ m ∧ v i ≠ m) (hN : u N = m ∨ v N = m)
    (hl : ∀ i, l i = if (if first then v i else u i) = (if first then b else a) then (two, -1) else if (if first then u i else v i) = 0 then (-1, one) else (one, two))
    (ks : ∀ i, VCall cfg 49 [sl1 [(a : Int), (b : Int)], sl1 [(u i : Int), (v i : Int)], ag2 (l i).1 (l i).2] [] [] (.tup [sl1 [(u (i + 1) : Int), (v (i + 1) : Int)], vb true]) []) :
    VCall cfg 28 [vi a, vi b, vi m, vb first] [] [] (slP (wayU l N)) [] := by
  have kh : ∀ i, VCall cfg 36 [sl1 [(u i : Int), (v i : Int)], vi m] [] [] (vb (decide ((m : Int) ∈ [(u i : Int), (v i : Int)]))) [] := fun i => by
    have := hu i; have := hv i
    exact Has_ok _ _ (by simp) (by simp; omega) (by omega)
  cases first
  · simp only [if_true, Bool.false_eq_true, if_false] at h12 hl
    obtain ⟨rfl, rfl⟩ := h12
    (refine VCall.mk (fn := a28) rfl rfl rfl ?_; simp only [a28, inV, mkB, nmsL, PT.set])
    (repeat (first | refine VC.seq ?_ | refine VC.block ?_ | refine VC.kill ?_ | refine VC.skip ?_ | refine VC.exit ?_ | refine VC.regA ?_ | refine VC.condT ?_ | refine VC.condF ?_))
    refine VC.frzA p19 ?_
    refine VC.frzA p20 ?_
    simp only [VSt.frz, PT.map, frzE_at, frzE_ag, frzL, frzV, frzB, Pa.eqb, cond_true, cond_false, VSt.kill, PT.filt, Option.map_some, Option.map_none, List.map_cons, List.map_nil]
    refine VC.loopG (fun (i : Nat) => ⟨inV [p2, p9, p10, p11, p12, p13] [vi m, vi 1, vi 0, sl1 [(a : Int), (b : Int)], sl1 [(u i : Int), (v i : Int)], .os 2 p56 i] .lf, mkB [(p56, .cells (flV (wayU l i)))] .lf, [], none⟩) (fun n i => n = N - i ∧ i ≤ N) (x := 0) ?_ ⟨rfl, Nat.zero_le _⟩ ?_
    · refine G.adoptA (p := p13) 2 p56 ?_
      rw [hu0, hv0]
      (apply Go.Ab.V.G.weak; constructor <;> simp (config := {decide := true}) only [PT.Le, inV, mkB, PT.set, VSt.kill, VSt.adopt, VSt.alloc, PT.filt, PT.map, List.map_cons, List.map_nil, noref, norefB, deadB, deadV, nos, nm, nmL, nmB, nmE, Pa.eqb, cond_true, cond_false, Bool.not_true, Bool.not_false, Bool.and_true, Bool.true_and, nmL_vi, flV_len, flP_len, flV_nm, flV_ok, flV_pv, flP_map, drop_flP, drop_flV, putC_flV, eqV2, eqV3, bneT, bneF, decide_true, decide_false, frzL_vi, frzL_flV, nmE_ag, nmE_at, frzE_ag, frzE_at, ofAg_len, ofAt_len, atL_vi, nmL_map_p, frzL_map_p, okL_p, toPVs_p, repsZ, nmL_reps, putC_vi, get_flV0, get_flV1, Int.toNat_zero, Int.toNat_one, Int.reduceToNat, eqV_slice, eqV_ptr, eqV_func, nilS, nilP, nilF, nmL_append, true_or, or_true, and_self, true_and, and_true, Option.some.injEq, reduceCtorEq, false_or, or_false, VV.p.injEq, PV.at.injEq, Value.int.injEq, sl1, vi, bl1, vb, nilV, pi])
      all_goals first | rfl | omega | exact .inl rfl | exact ⟨rfl, by omega⟩ | ((repeat' apply And.intro) <;> first | rfl | exact .inl rfl)
    rintro n i ⟨hn, hi⟩
    simp only [inV, PT.set, mkB]
    have kh := kh i
    have ks := ks i
    have hl := hl i
    have hui := hu i
    have hvi := hv i
    have hwl := wayU_len l i
    have hfl := flV_snoc (wayU l i) (l i).1 (l i).2
    have hws := wayU_succ l i
    have hl2 := flV_len (wayU l i)
    have hnm := flV_nm (wayU l i)
    by_cases h : i < N
    · obtain ⟨h1, h2⟩ := hno i h
      have hdec : decide ((m : Int) ∈ [(u i : Int), (v i : Int)]) = false := by simp; omega
      rw [hdec] at kh
      (repeat (first | refine VC.seq ?_ | refine VC.block ?_ | refine VC.kill ?_ | refine VC.skip ?_ | refine VC.exit ?_ | refine VC.regA ?_ | refine VC.condT ?_ | refine VC.condF ?_))
      (refine VC.regCA ?_; refine VO.moreA ?_; refine VO.call0A (no_orc _ (by decide)) kh ?_; refine VO.endA ?_; (repeat (first | refine VC.seq ?_ | refine VC.block ?_ | refine VC.kill ?_ | refine VC.skip ?_ | refine VC.exit ?_ | refine VC.regA ?_ | refine VC.condT ?_ | refine VC.condF ?_)))
      by_cases hc1 : u i = a
      · rw [if_pos hc1] at hl
        rw [hl] at ks hfl hws
        dsimp only at ks hfl hws
        simp only [ag2] at ks
        (repeat (first | refine VC.seq ?_ | refine VC.block ?_ | refine VC.kill ?_ | refine VC.skip ?_ | refine VC.exit ?_ | refine VC.regA ?_ | refine VC.condT ?_ | refine VC.condF ?_))
        (refine VC.regCA ?_; refine VO.moreA ?_; refine VO.call0A (no_orc _ (by decide)) ks ?_; refine VO.endA ?_; (repeat (first | refine VC.seq ?_ | refine VC.block ?_ | refine VC.kill ?_ | refine VC.skip ?_ | refine VC.exit ?_ | refine VC.regA ?_ | refine VC.condT ?_ | refine VC.condF ?_)))
        refine ⟨_, i + 1, ?_, ⟨rfl, by omega⟩, ?_⟩
        · omega
        · (apply Go.Ab.V.G.weak; constructor <;> simp (config := {decide := true}) only [PT.Le, inV, mkB, PT.set, VSt.kill, VSt.adopt, VSt.alloc, PT.filt, PT.map, List.map_cons, List.map_nil, noref, norefB, deadB, deadV, nos, nm, nmL, nmB, nmE, Pa.eqb, cond_true, cond_false, Bool.not_true, Bool.not_false, Bool.and_true, Bool.true_and, nmL_vi, flV_len, flP_len, flV_nm, flV_ok, flV_pv, flP_map, drop_flP, drop_flV, putC_flV, eqV2, eqV3, bneT, bneF, decide_true, decide_false, frzL_vi, frzL_flV, nmE_ag, nmE_at, frzE_ag, frzE_at, ofAg_len, ofAt_len, atL_vi, nmL_map_p, frzL_map_p, okL_p, toPVs_p, repsZ, nmL_reps, putC_vi, get_flV0, get_flV1, Int.toNat_zero, Int.toNat_one, Int.reduceToNat, eqV_slice, eqV_ptr, eqV_func, nilS, nilP, nilF, nmL_append, true_or, or_true, and_self, true_and, and_true, Option.some.injEq, reduceCtorEq, false_or, or_false, VV.p.injEq, PV.at.injEq, Value.int.injEq, sl1, vi, bl1, vb, nilV, pi, hws, hfl])
          all_goals first | rfl | omega | exact ⟨rfl, rfl⟩ | exact ⟨rfl, by omega⟩
      rw [if_neg hc1] at hl
      by_cases hc2 : v i = 0
      · rw [if_pos hc2] at hl
        rw [hl] at ks hfl hws
        dsimp only at ks hfl hws
        simp only [ag2] at ks
        (repeat (first | refine VC.seq ?_ | refine VC.block ?_ | refine VC.kill ?_ | refine VC.skip ?_ | refine VC.exit ?_ | refine VC.regA ?_ | refine VC.condT ?_ | refine VC.condF ?_))
        (refine VC.regCA ?_; refine VO.moreA ?_; refine VO.call0A (no_orc _ (by decide)) ks ?_; refine VO.endA ?_; (repeat (first | refine VC.seq ?_ | refine VC.block ?_ | refine VC.kill ?_ | refine VC.skip ?_ | refine VC.exit ?_ | refine VC.regA ?_ | refine VC.condT ?_ | refine VC.condF ?_)))
        refine ⟨_, i + 1, ?_, ⟨rfl, by omega⟩, ?_⟩
        · omega
        · (apply Go.Ab.V.G.weak; constructor <;> simp (config := {decide := true}) only [PT.Le, inV, mkB, PT.set, VSt.kill, VSt.adopt, VSt.alloc, PT.filt, PT.map, List.map_cons, List.map_nil, noref, norefB, deadB, deadV, nos, nm, nmL, nmB, nmE, Pa.eqb, cond_true, cond_false, Bool.not_true, Bool.not_false, Bool.and_true, Bool.true_and, nmL_vi, flV_len, flP_len, flV_nm, flV_ok, flV_pv, flP_map, drop_flP, drop_flV, putC_flV, eqV2, eqV3, bneT, bneF, decide_true, decide_false, frzL_vi, frzL_flV, nmE_ag, nmE_at, frzE_ag, frzE_at, ofAg_len, ofAt_len, atL_vi, nmL_map_p, frzL_map_p, okL_p, toPVs_p, repsZ, nmL_reps, putC_vi, get_flV0, get_flV1, Int.toNat_zero, Int.toNat_one, Int.reduceToNat, eqV_slice, eqV_ptr, eqV_func, nilS, nilP, nilF, nmL_append, true_or, or_true, and_self, true_and, and_true, Option.some.injEq, reduceCtorEq, false_or, or_false, VV.p.injEq, PV.at.injEq, Value.int.injEq, sl1, vi, bl1, vb, nilV, pi, hws, hfl])
          all_goals first | rfl | omega | exact ⟨rfl, rfl⟩ | exact ⟨rfl, by omega⟩
      · rw [if_neg hc2] at hl
        rw [hl] at ks hfl hws
        dsimp only at ks hfl hws
        simp only [ag2] at ks
        (repeat (first | refine VC.seq ?_ | refine VC.block ?_ | refine VC.kill ?_ | refine VC.skip ?_ | refine VC.exit ?_ | refine VC.regA ?_ | refine VC.condT ?_ | refine VC.condF ?_))
        (refine VC.regCA ?_; refine VO.moreA ?_; refine VO.call0A (no_orc _ (by decide)) ks ?_; refine VO.endA ?_; (repeat (first | refine VC.seq ?_ | refine VC.block ?_ | refine VC.kill ?_ | refine VC.skip ?_ | refine VC.exit ?_ | refine VC.regA ?_ | refine VC.condT ?_ | refine VC.condF ?_)))
        refine ⟨_, i + 1, ?_, ⟨rfl, by omega⟩, ?_⟩
        · omega
        · (apply Go.Ab.V.G.weak; constructor <;> simp (config := {decide := true}) only [PT.Le, inV, mkB, PT.set, VSt.kill, VSt.adopt, VSt.alloc, PT.filt, PT.map, List.map_cons, List.map_nil, noref, norefB, deadB, deadV, nos, nm, nmL, nmB, nmE, Pa.eqb, cond_true, cond_false, Bool.not_true, Bool.not_false, Bool.and_true, Bool.true_and, nmL_vi, flV_len, flP_len, flV_nm, flV_ok, flV_pv, flP_map, drop_flP, drop_flV, putC_flV, eqV2, eqV3, bneT, bneF, decide_true, decide_false, frzL_vi, frzL_flV, nmE_ag, nmE_at, frzE_ag, frzE_at, ofAg_len, ofAt_len, atL_vi, nmL_map_p, frzL_map_p, okL_p, toPVs_p, repsZ, nmL_reps, putC_vi, get_flV0, get_flV1, Int.toNat_zero, Int.toNat_one, Int.reduceToNat, eqV_slice, eqV_ptr, eqV_func, nilS, nilP, nilF, nmL_append, true_or, or_true, and_self, true_and, and_true, Option.some.injEq, reduceCtorEq, false_or, or_false, VV.p.injEq, PV.at.injEq, Value.int.injEq, sl1, vi, bl1, vb, nilV, pi, hws, hfl])
          all_goals first | rfl | omega | exact ⟨rfl, rfl⟩ | exact ⟨rfl, by omega⟩
    · have : i = N := by omega
      subst this
      have hdec : decide ((m : Int) ∈ [(u i : Int), (v i : Int)]) = true := by simp; omega
      rw [hdec] at kh
      (repeat (first | refine VC.seq ?_ | refine VC.block ?_ | refine VC.kill ?_ | refine VC.skip ?_ | refine VC.exit ?_ | refine VC.regA ?_ | refine VC.condT ?_ | refine VC.condF ?_))
      (refine VC.regCA ?_; refine VO.moreA ?_; refine VO.call0A (no_orc _ (by decide)) kh ?_; refine VO.endA ?_; (repeat (first | refine VC.seq ?_ | refine VC.block ?_ | refine VC.kill ?_ | refine VC.skip ?_ | refine VC.exit ?_ | refine VC.regA ?_ | refine VC.condT ?_ | refine VC.condF ?_)))
      refine VC.ret (Fin.frzA p56 (hb := rfl) (hc := flV_pv _) (Fin.A ?_))
      rw [slP, hwl]; rfl
  · simp only [if_true, Bool.false_eq_true, if_false] at h12 hl
    obtain ⟨rfl, rfl⟩ := h12
    (refine VCall.mk (fn := a28) rfl rfl rfl ?_; simp only [a28, inV, mkB, nmsL, PT.set])
    (repeat (first | refine VC.seq ?_ | refine VC.block ?_ | refine VC.kill ?_ | refine VC.skip ?_ | refine VC.exit ?_ | refine VC.regA ?_ | refine VC.condT ?_ | refine VC.condF ?_))
    refine VC.frzA p19 ?_
    refine VC.frzA p20 ?_
    simp only [VSt.frz, PT.map, frzE_at, frzE_ag, frzL, frzV, frzB, Pa.eqb, cond_true, cond_false, VSt.kill, PT.filt, Option.map_some, Option.map_none, List.map_cons, List.map_nil]
    refine VC.loopG (fun (i : Nat) => ⟨inV [p2, p9, p10, p11, p12, p13] [vi m, vi 0, vi 1, sl1 [(a : Int), (b : Int)], sl1 [(u i : Int), (v i : Int)], .os 2 p56 i] .lf, mkB [(p56, .cells (flV (wayU l i)))] .lf, [], none⟩) (fun n i => n = N - i ∧ i ≤ N) (x := 0) ?_ ⟨rfl, Nat.zero_le _⟩ ?_
    · refine G.adoptA (p := p13) 2 p56 ?_
      rw [hu0, hv0]
      (apply Go.Ab.V.G.weak; constructor <;> simp (config := {decide := true}) only [PT.Le, inV, mkB, PT.set, VSt.kill, VSt.adopt, VSt.alloc, PT.filt, PT.map, List.map_cons, List.map_nil, noref, norefB, deadB, deadV, nos, nm, nmL, nmB, nmE, Pa.eqb, cond_true, cond_false, Bool.not_true, Bool.not_false, Bool.and_true, Bool.true_and, nmL_vi, flV_len, flP_len, flV_nm, flV_ok, flV_pv, flP_map, drop_flP, drop_flV, putC_flV, eqV2, eqV3, bneT, bneF, decide_true, decide_false, frzL_vi, frzL_flV, nmE_ag, nmE_at, frzE_ag, frzE_at, ofAg_len, ofAt_len, atL_vi, nmL_map_p, frzL_map_p, okL_p, toPVs_p, repsZ, nmL_reps, putC_vi, get_flV0, get_flV1, Int.toNat_zero, Int.toNat_one, Int.reduceToNat, eqV_slice, eqV_ptr, eqV_func, nilS, nilP, nilF, nmL_append, true_or, or_true, and_self, true_and, and_true, Option.some.injEq, reduceCtorEq, false_or, or_false, VV.p.injEq, PV.at.injEq, Value.int.injEq, sl1, vi, bl1, vb, nilV, pi])
      all_goals first | rfl | omega | exact .inl rfl | exact ⟨rfl, by omega⟩ | ((repeat' apply And.intro) <;> first | rfl | exact .inl rfl)
    rintro n i ⟨hn, hi⟩
    simp only [inV, PT.set, mkB]
    have kh := kh i
    have ks := ks i
    have hl := hl i
    have hui := hu i
    have hvi := hv i
    have hwl := wayU_len l i
    have hfl := flV_snoc (wayU l i) (l i).1 (l i).2
    have hws := wayU_succ l i
    have hl2 := flV_len (wayU l i)
    have hnm := flV_nm (wayU l i)
    by_cases h : i < N
    · obtain ⟨h1, h2⟩ := hno i h
      have hdec : decide ((m : Int) ∈ [(u i : Int), (v i : Int)]) = false := by simp; omega
      rw [hdec] at kh
      (repeat (first | refine VC.seq ?_ | refine VC.block ?_ | refine VC.kill ?_ | refine VC.skip ?_ | refine VC.exit ?_ | refine VC.regA ?_ | refine VC.condT ?_ | refine VC.condF ?_))
      (refine VC.regCA ?_; refine VO.moreA ?_; refine VO.call0A (no_orc _ (by decide)) kh ?_; refine VO.endA ?_; (repeat (first | refine VC.seq ?_ | refine VC.block ?_ | refine VC.kill ?_ | refine VC.skip ?_ | refine VC.exit ?_ | refine VC.regA ?_ | refine VC.condT ?_ | refine VC.condF ?_)))
      by_cases hc1 : v i = b
      · rw [if_pos hc1] at hl
        rw [hl] at ks hfl hws
        dsimp only at ks hfl hws
        simp only [ag2] at ks
        (repeat (first | refine VC.seq ?_ | refine VC.block ?_ | refine VC.kill ?_ | refine VC.skip ?_ | refine VC.exit ?_ | refine VC.regA ?_ | refine VC.condT ?_ | refine VC.condF ?_))
        (refine VC.regCA ?_; refine VO.moreA ?_; refine VO.call0A (no_orc _ (by decide)) ks ?_; refine VO.endA ?_; (repeat (first | refine VC.seq ?_ | refine VC.block ?_ | refine VC.kill ?_ | refine VC.skip ?_ | refine VC.exit ?_ | refine VC.regA ?_ | refine VC.condT ?_ | refine VC.condF ?_)))
        refine ⟨_, i + 1, ?_, ⟨rfl, by omega⟩, ?_⟩
        · omega
        · (apply Go.Ab.V.G.weak; constructor <;> simp (config := {decide := true}) only [PT.Le, inV, mkB, PT.set, VSt.kill, VSt.adopt, VSt.alloc, PT.filt, PT.map, List.map_cons, List.map_nil, noref, norefB, deadB, deadV, nos, nm, nmL, nmB, nmE, Pa.eqb, cond_true, cond_false, Bool.not_true, Bool.not_false, Bool.and_true, Bool.true_and, nmL_vi, flV_len, flP_len, flV_nm, flV_ok, flV_pv, flP_map, drop_flP, drop_flV, putC_flV, eqV2, eqV3, bneT, bneF, decide_true, decide_false, frzL_vi, frzL_flV, nmE_ag, nmE_at, frzE_ag, frzE_at, ofAg_len, ofAt_len, atL_vi, nmL_map_p, frzL_map_p, okL_p, toPVs_p, repsZ, nmL_reps, putC_vi, get_flV0, get_flV1, Int.toNat_zero, Int.toNat_one, Int.reduceToNat, eqV_slice, eqV_ptr, eqV_func, nilS, nilP, nilF, nmL_append, true_or, or_true, and_self, true_and, and_true, Option.some.injEq, reduceCtorEq, false_or, or_false, VV.p.injEq, PV.at.injEq, Value.int.injEq, sl1, vi, bl1, vb, nilV, pi, hws, hfl])
          all_goals first | rfl | omega | exact ⟨rfl, rfl⟩ | exact ⟨rfl, by omega⟩
      rw [if_neg hc1] at hl
      by_cases hc2 : u i = 0
      · rw [if_pos hc2] at hl
        rw [hl] at ks hfl hws
        dsimp only at ks hfl hws
        simp only [ag2] at ks
        (repeat (first | refine VC.seq ?_ | refine VC.block ?_ | refine VC.kill ?_ | refine VC.skip ?_ | refine VC.exit ?_ | refine VC.regA ?_ | refine VC.condT ?_ | refine VC.condF ?_))
        (refine VC.regCA ?_; refine VO.moreA ?_; refine VO.call0A (no_orc _ (by decide)) ks ?_; refine VO.endA ?_; (repeat (first | refine VC.seq ?_ | refine VC.block ?_ | refine VC.kill ?_ | refine VC.skip ?_ | refine VC.exit ?_ | refine VC.regA ?_ | refine VC.condT ?_ | refine VC.condF ?_)))
        refine ⟨_, i + 1, ?_, ⟨rfl, by omega⟩, ?_⟩
        · omega
        · (apply Go.Ab.V.G.weak; constructor <;> simp (config := {decide := true}) only [PT.Le, inV, mkB, PT.set, VSt.kill, VSt.adopt, VSt.alloc, PT.filt, PT.map, List.map_cons, List.map_nil, noref, norefB, deadB, deadV, nos, nm, nmL, nmB, nmE, Pa.eqb, cond_true, cond_false, Bool.not_true, Bool.not_false, Bool.and_true, Bool.true_and, nmL_vi, flV_len, flP_len, flV_nm, flV_ok, flV_pv, flP_map, drop_flP, drop_flV, putC_flV, eqV2, eqV3, bneT, bneF, decide_true, decide_false, frzL_vi, frzL_flV, nmE_ag, nmE_at, frzE_ag, frzE_at, ofAg_len, ofAt_len, atL_vi, nmL_map_p, frzL_map_p, okL_p, toPVs_p, repsZ, nmL_reps, putC_vi, get_flV0, get_flV1, Int.toNat_zero, Int.toNat_one, Int.reduceToNat, eqV_slice, eqV_ptr, eqV_func, nilS, nilP, nilF, nmL_append, true_or, or_true, and_self, true_and, and_true, Option.some.injEq, reduceCtorEq, false_or, or_false, VV.p.injEq, PV.at.injEq, Value.int.injEq, sl1, vi, bl1, vb, nilV, pi, hws, hfl])
          all_goals first | rfl | omega | exact ⟨rfl, rfl⟩ | exact ⟨rfl, by omega⟩
      · rw [if_neg hc2] at hl
        rw [hl] at ks hfl hws
        dsimp only at ks hfl hws
        simp only [ag2] at ks
        (repeat (first | refine VC.seq ?_ | refine VC.block ?_ | refine VC.kill ?_ | refine VC.skip ?_ | refine VC.exit ?_ | refine VC.regA ?_ | refine VC.condT ?_ | refine VC.condF ?_))
        (refine VC.regCA ?_; refine VO.moreA ?_; refine VO.call0A (no_orc _ (by decide)) ks ?_; refine VO.endA ?_; (repeat (first | refine VC.seq ?_ | refine VC.block ?_ | refine VC.kill ?_ | refine VC.skip ?_ | refine VC.exit ?_ | refine VC.regA ?_ | refine VC.condT ?_ | refine VC.condF ?_)))
        refine ⟨_, i + 1, ?_, ⟨rfl, by omega⟩, ?_⟩
        · omega
        · (apply Go.Ab.V.G.weak; constructor <;> simp (config := {decide := true}) only [PT.Le, inV, mkB, PT.set, VSt.kill, VSt.adopt, VSt.alloc, PT.filt, PT.map, List.map_cons, List.map_nil, noref, norefB, deadB, deadV, nos, nm, nmL, nmB, nmE, Pa.eqb, cond_true, cond_false, Bool.not_true, Bool.not_false, Bool.and_true, Bool.true_and, nmL_vi, flV_len, flP_len, flV_nm, flV_ok, flV_pv, flP_map, drop_flP, drop_flV, putC_flV, eqV2, eqV3, bneT, bneF, decide_true, decide_false, frzL_vi, frzL_flV, nmE_ag, nmE_at, frzE_ag, frzE_at, ofAg_len, ofAt_len, atL_vi, nmL_map_p, frzL_map_p, okL_p, toPVs_p, repsZ, nmL_reps, putC_vi, get_flV0, get_flV1, Int.toNat_zero, Int.toNat_one, Int.reduceToNat, eqV_slice, eqV_ptr, eqV_func, nilS, nilP, nilF, nmL_append, true_or, or_true, and_self, true_and, and_true, Option.some.injEq, reduceCtorEq, false_or, or_false, VV.p.injEq, PV.at.injEq, Value.int.injEq, sl1, vi, bl1, vb, nilV, pi, hws, hfl])
          all_goals first | rfl | omega | exact ⟨rfl, rfl⟩ | exact ⟨rfl, by omega⟩
    · have : i = N := by omega
      subst this
      have hdec : decide ((m : Int) ∈ [(u i : Int), (v i : Int)]) = true := by simp; omega
      rw [hdec] at kh
      (repeat (first | refine VC.seq ?_ | refine VC.block ?_ | refine VC.kill ?_ | refine VC.skip ?_ | refine VC.exit ?_ | refine VC.regA ?_ | refine VC.condT ?_ | refine VC.condF ?_))
      (refine VC.regCA ?_; refine VO.moreA ?_; refine VO.call0A (no_orc _ (by decide)) kh ?_; refine VO.endA ?_; (repeat (first | refine VC.seq ?_ | refine VC.block ?_ | refine VC.kill ?_ | refine VC.skip ?_ | refine VC.exit ?_ | refine VC.regA ?_ | refine VC.condT ?_ | refine VC.condF ?_)))
      refine VC.ret (Fin.frzA p56 (hb := rfl) (hc := flV_pv _) (Fin.A ?_))
      rw [slP, hwl]; rfl
theorem labI (first : Bool) (b : Nat) (q : Nat × Nat) : (-9223372036854775808 ≤ (lab first b q).1 ∧ (lab first b q).1 ≤ 9223372036854775807) ∧ -9223372036854775808 ≤ (lab first b q).2 ∧ (lab first b q).2 ≤ 9223372036854775807 := by
  have h := lab_ok first b q
  simp only [isR, inR, Bool.and_eq_true, decide_eq_true_eq] at h
  omega
theorem stepL (a b : Nat) (ha : 1 ≤ a ∧ a ≤ 1000) (hb : 1 ≤ b ∧ b ≤ 1000) (q : Nat × Nat) (h : q.1 ≤ a ∧ q.2 ≤ b) (first : Bool) : VCall cfg 49 [sl1 (cf first (a, b)), sl1 (cf first q), ag2 (lab first b q).1 (lab first b q).2] [] [] (.tup [sl1 (cf first (nx a b q)), vb true]) [] := by
  have hl := lab_ok first b q
  have hi := labI first b q
  have e1 : (cf first (a, b)).length = 2 := by cases first <;> rfl
  have e2 : (cf first q).length = 2 := by cases first <;> rfl
  have k := stepK_ok (cf first (a, b)) (cf first q) (lab first b q).1 (lab first b q).2 (by omega) (by omega) hi.1 hi.2 (by
    intro i hi
    cases first <;> simp [cf] at hi <;> omega) (by
    intro k h1 h2
    have hk : k = 0 ∨ k = 1 := by omega
    rcases hk with rfl | rfl <;> cases first <;> simp [cf] <;> omega) (by omega)
  rw [e1, hl, if_pos rfl, step_nx a b q first h] at k
  exact k
/-- The reference's way is the same. -/
theorem wayR_ok (a b m : Nat) (first : Bool) (N : Nat) (h : okT a b m) (hNm : N ≤ 1002001) (hN : hitT a b m first N) (hno : ∀ k, k < N → ¬hitT a b m first k) : VCall cfg 28 [vi a, vi b, vi m, vb first] [] [] (slP (wayU (lT a b first) N)) [] := by
  unfold okT at h
  cases first with
  | true =>
    simp only [hitT, if_true, hit] at hN hno
    exact wayR_gen a b true 0 1 ⟨rfl, rfl⟩ (fun i => (sq a b i).1) (fun i => (sq a b i).2) (lT a b true) m N hNm (by omega) (by omega) (by omega) (fun i => (sq_bd a b i).1) (fun i => (sq_bd a b i).2) rfl rfl
      (fun i hi => ⟨fun e => hno i hi (.inl e), fun e => hno i hi (.inr e)⟩) hN (fun i => rfl)
      (fun i => by
        have := stepL a b ⟨by omega, by omega⟩ ⟨by omega, by omega⟩ (sq a b i) (sq_bd a b i) true
        simp only [sq_succ]
        exact this)
  | false =>
    simp only [hitT, Bool.false_eq_true, if_false, hit] at hN hno
    exact wayR_gen a b false 1 0 ⟨rfl, rfl⟩ (fun i => (sq b a i).2) (fun i => (sq b a i).1) (lT a b false) m N hNm (by omega) (by omega) (by omega) (fun i => (sq_bd b a i).2) (fun i => (sq_bd b a i).1) rfl rfl
      (fun i hi => ⟨fun e => hno i hi (.inr e), fun e => hno i hi (.inl e)⟩) hN.symm (fun i => rfl)
      (fun i => by
        have := stepL b a ⟨by omega, by omega⟩ ⟨by omega, by omega⟩ (sq b a i) (sq_bd b a i) false
        simp only [sq_succ]
        exact this)
end Go.Ab.Jug

namespace Go.Ab.Jug
open Go.Ab.V
set_option maxRecDepth 100000
instance (a b m : Int) : Decidable (okT a b m) := by unfold okT; infer_instance
def i64 (a : Int) : Prop := -9223372036854775808 ≤ a ∧ a ≤ 9223372036854775807
set_option maxHeartbeats 8000000 in
theorem twos_law (a b m : Int) (ha : i64 a) (hb : i64 b) (hm : i64 m) : VCall cfg 5 [vi a, vi b, vi m] [] [] (vb true) [] := by
  unfold i64 at ha hb hm
  (refine VCall.mk (fn := a5) rfl rfl rfl ?_; simp only [a5, inV, mkB, nmsL, PT.set])
  (repeat (first | refine VC.seq ?_ | refine VC.block ?_ | refine VC.kill ?_ | refine VC.skip ?_ | refine VC.exit ?_ | refine VC.regA ?_ | refine VC.condT ?_ | refine VC.condF ?_))
  refine VC.loopG (fun (q : Int × Int × Int × Nat) => ⟨inV [p0, p1, p2, p7] [vi q.1, vi q.2.1, vi q.2.2.1, vi q.2.2.2] .lf, .lf, [], none⟩) (fun n q => n = 3 - q.2.2.2 ∧ q.2.2.2 ≤ 3 ∧ i64 q.1 ∧ i64 q.2.1 ∧ i64 q.2.2.1) (x := (a, b, m, 0)) ?_ ⟨rfl, by simp, ha, hb, hm⟩ ?_
  · (apply Go.Ab.V.G.weak; constructor <;> simp (config := {decide := true}) only [PT.Le, inV, mkB, PT.set, VSt.kill, VSt.adopt, VSt.alloc, PT.filt, PT.map, List.map_cons, List.map_nil, noref, norefB, deadB, deadV, nos, nm, nmL, nmB, nmE, Pa.eqb, cond_true, cond_false, Bool.not_true, Bool.not_false, Bool.and_true, Bool.true_and, nmL_vi, flV_len, flP_len, flV_nm, flV_ok, flV_pv, flP_map, drop_flP, drop_flV, putC_flV, eqV2, eqV3, bneT, bneF, decide_true, decide_false, frzL_vi, frzL_flV, nmE_ag, nmE_at, frzE_ag, frzE_at, ofAg_len, ofAt_len, atL_vi, nmL_map_p, frzL_map_p, okL_p, toPVs_p, repsZ, nmL_reps, putC_vi, get_flV0, get_flV1, Int.toNat_zero, Int.toNat_one, Int.reduceToNat, eqV_slice, eqV_ptr, eqV_func, nilS, nilP, nilF, nmL_append, true_or, or_true, and_self, true_and, and_true, Option.some.injEq, reduceCtorEq, false_or, or_false, VV.p.injEq, PV.at.injEq, Value.int.injEq, sl1, vi, bl1, vb, nilV])
  clear ha hb hm
  rintro n ⟨a, b, m, k⟩ ⟨hn, hk, ha, hb, hm⟩
  simp only [i64] at hn hk ha hb hm
  simp only [inV, PT.set]
  (repeat (first | refine VC.seq ?_ | refine VC.block ?_ | refine VC.kill ?_ | refine VC.skip ?_ | refine VC.exit ?_ | refine VC.regA ?_ | refine VC.condT ?_ | refine VC.condF ?_))
  refine VC.condA ?_ ?_ <;> intro h <;> (simp only [decide_eq_true_eq, decide_eq_false_iff_not, bne_iff_ne, ne_eq, bne_eq_false_iff_eq, beq_iff_eq, beq_eq_false_iff_ne, Bool.not_eq_true', Bool.not_eq_false', Bool.and_eq_true, Bool.or_eq_true, Int.natCast_inj] at h)
  · have h : k < 3 := by omega
    by_cases hT : okT a b m
    · obtain ⟨A, B, M, rfl, rfl, rfl, hA1, hA2, hB1, hB2, hM⟩ := okT_nat hT
      by_cases hd : M % Nat.gcd A B = 0
      · obtain ⟨N1, hN1, hno1, hb1⟩ := hits2 ⟨hA1, hA2⟩ ⟨hB1, hB2⟩ hM hd true
        obtain ⟨N2, hN2, hno2, hb2⟩ := hits2 ⟨hA1, hA2⟩ ⟨hB1, hB2⟩ hM hd false
        have k1 := Two_ok A B M N1 N2 hT hd hb1 hN1 hno1 hb2 hN2 hno2
        have k2 := TwoWay_ok A B M true N1 hT hd hb1 hN1 hno1
        have k3 := TwoWay_ok A B M false N2 hT hd hb2 hN2 hno2
        have k4 := Measurable_ok A B M hT
        rw [decide_eq_true hd] at k4
        have k5 := wayR_ok A B M true N1 hT hb1 hN1 hno1
        have k6 := wayR_ok A B M false N2 hT hb2 hN2 hno2
        have l1 := wayU_len (lT A B true) N1
        have l2 := wayU_len (lT A B false) N2
        have k7 := pairs_ok (wayU (lT A B true) N1) (by omega)
        have k8 := pairs_ok (wayU (lT A B false) N2) (by omega)
        unfold okT at hT
        (repeat (first | refine VC.seq ?_ | refine VC.block ?_ | refine VC.kill ?_ | refine VC.skip ?_ | refine VC.exit ?_ | refine VC.regA ?_ | refine VC.condT ?_ | refine VC.condF ?_))
        (refine VC.regCA ?_; refine VO.moreA ?_; refine VO.call0A (no_orc _ (by decide)) k1 ?_; refine VO.endA ?_; (repeat (first | refine VC.seq ?_ | refine VC.block ?_ | refine VC.kill ?_ | refine VC.skip ?_ | refine VC.exit ?_ | refine VC.regA ?_ | refine VC.condT ?_ | refine VC.condF ?_)))
        (refine VC.regCA ?_; refine VO.moreA ?_; refine VO.call0A (no_orc _ (by decide)) k2 ?_; refine VO.endA ?_; (repeat (first | refine VC.seq ?_ | refine VC.block ?_ | refine VC.kill ?_ | refine VC.skip ?_ | refine VC.exit ?_ | refine VC.regA ?_ | refine VC.condT ?_ | refine VC.condF ?_)))
        (refine VC.regCA ?_; refine VO.moreA ?_; refine VO.call0A (no_orc _ (by decide)) k3 ?_; refine VO.endA ?_; (repeat (first | refine VC.seq ?_ | refine VC.block ?_ | refine VC.kill ?_ | refine VC.skip ?_ | refine VC.exit ?_ | refine VC.regA ?_ | refine VC.condT ?_ | refine VC.condF ?_)))
        (refine VC.regCA ?_; refine VO.moreA ?_; refine VO.call0A (no_orc _ (by decide)) k4 ?_; refine VO.endA ?_; (repeat (first | refine VC.seq ?_ | refine VC.block ?_ | refine VC.kill ?_ | refine VC.skip ?_ | refine VC.exit ?_ | refine VC.regA ?_ | refine VC.condT ?_ | refine VC.condF ?_)))
        refine VC.regCA ?_
        refine VO.moreA ?_
        refine VO.call0A (no_orc 28 (by decide)) k5 ?_
        refine VO.moreA ?_
        refine VO.call0A (no_orc 28 (by decide)) k6 ?_
        refine VO.endA ?_
        (repeat (first | refine VC.seq ?_ | refine VC.block ?_ | refine VC.kill ?_ | refine VC.skip ?_ | refine VC.exit ?_ | refine VC.regA ?_ | refine VC.condT ?_ | refine VC.condF ?_))
        refine VC.regCA ?_
        refine VO.moreA ?_
        refine VO.call0A (no_orc 29 (by decide)) k7 ?_
        refine VO.moreA ?_
        refine VO.call0A (no_orc 29 (by decide)) k8 ?_
        refine VO.endA ?_
        (repeat (first | refine VC.seq ?_ | refine VC.block ?_ | refine VC.kill ?_ | refine VC.skip ?_ | refine VC.exit ?_ | refine VC.regA ?_ | refine VC.condT ?_ | refine VC.condF ?_))
        have hx1 : 1 ≤ 1 + (A : Int) % 18446744073709551616 % 1000 ∧ 1 + (A : Int) % 18446744073709551616 % 1000 ≤ 1000 := by omega
        have hx2 : 1 ≤ 1 + (B : Int) % 18446744073709551616 % 1000 ∧ 1 + (B : Int) % 18446744073709551616 % 1000 ≤ 1000 := by omega
        have hx3 : 0 ≤ (M : Int) % 18446744073709551616 := Int.emod_nonneg _ (by decide)
        generalize 1 + (A : Int) % 18446744073709551616 % 1000 = a1 at *
        generalize 1 + (B : Int) % 18446744073709551616 % 1000 = b1 at *
        refine VC.condA ?_ ?_ <;> intro hk1 <;> (simp only [decide_eq_true_eq, decide_eq_false_iff_not, bne_iff_ne, ne_eq, bne_eq_false_iff_eq, beq_iff_eq, beq_eq_false_iff_ne, Bool.not_eq_true', Bool.not_eq_false', Bool.and_eq_true, Bool.or_eq_true, Int.natCast_inj] at hk1)
        · have hy1 : 1 ≤ 1 + a1 % 30 ∧ 1 + a1 % 30 ≤ 30 := by omega
          have hy2 : 1 ≤ 1 + b1 % 30 ∧ 1 + b1 % 30 ≤ 30 := by omega
          have hz0 : 0 ≤ (M : Int) % 18446744073709551616 % ((max (1 + a1 % 30) (1 + b1 % 30) + 1) % 18446744073709551616) := Int.emod_nonneg _ (by omega)
          have hz1 : (M : Int) % 18446744073709551616 % ((max (1 + a1 % 30) (1 + b1 % 30) + 1) % 18446744073709551616) < (max (1 + a1 % 30) (1 + b1 % 30) + 1) := Int.lt_of_lt_of_le (Int.emod_lt_of_pos _ (by omega)) (by omega)
          (repeat (first | refine VC.seq ?_ | refine VC.block ?_ | refine VC.kill ?_ | refine VC.skip ?_ | refine VC.exit ?_ | refine VC.regA ?_ | refine VC.condT ?_ | refine VC.condF ?_))
          refine ⟨_, (1 + a1 % 30, 1 + b1 % 30, (M : Int) % 18446744073709551616 % ((max (1 + a1 % 30) (1 + b1 % 30) + 1) % 18446744073709551616), k + 1), ?_, ⟨rfl, by simp only; omega, by simp only [i64]; omega, by simp only [i64]; omega, by simp only [i64]; omega⟩, ?_⟩
          · simp only; omega
          · (apply Go.Ab.V.G.weak; constructor <;> simp (config := {decide := true}) only [PT.Le, inV, mkB, PT.set, VSt.kill, VSt.adopt, VSt.alloc, PT.filt, PT.map, List.map_cons, List.map_nil, noref, norefB, deadB, deadV, nos, nm, nmL, nmB, nmE, Pa.eqb, cond_true, cond_false, Bool.not_true, Bool.not_false, Bool.and_true, Bool.true_and, nmL_vi, flV_len, flP_len, flV_nm, flV_ok, flV_pv, flP_map, drop_flP, drop_flV, putC_flV, eqV2, eqV3, bneT, bneF, decide_true, decide_false, frzL_vi, frzL_flV, nmE_ag, nmE_at, frzE_ag, frzE_at, ofAg_len, ofAt_len, atL_vi, nmL_map_p, frzL_map_p, okL_p, toPVs_p, repsZ, nmL_reps, putC_vi, get_flV0, get_flV1, Int.toNat_zero, Int.toNat_one, Int.reduceToNat, eqV_slice, eqV_ptr, eqV_func, nilS, nilP, nilF, nmL_append, true_or, or_true, and_self, true_and, and_true, Option.some.injEq, reduceCtorEq, false_or, or_false, VV.p.injEq, PV.at.injEq, Value.int.injEq, sl1, vi, bl1, vb, nilV])
            (all_goals first | rfl | omega | exact ⟨rfl, by omega⟩)
        · have hz0 : 0 ≤ (M : Int) % 18446744073709551616 % ((max a1 b1 + 1) % 18446744073709551616) := Int.emod_nonneg _ (by omega)
          have hz1 : (M : Int) % 18446744073709551616 % ((max a1 b1 + 1) % 18446744073709551616) < (max a1 b1 + 1) := Int.lt_of_lt_of_le (Int.emod_lt_of_pos _ (by omega)) (by omega)
          (repeat (first | refine VC.seq ?_ | refine VC.block ?_ | refine VC.kill ?_ | refine VC.skip ?_ | refine VC.exit ?_ | refine VC.regA ?_ | refine VC.condT ?_ | refine VC.condF ?_))
          refine ⟨_, (a1, b1, (M : Int) % 18446744073709551616 % ((max a1 b1 + 1) % 18446744073709551616), k + 1), ?_, ⟨rfl, by simp only; omega, by simp only [i64]; omega, by simp only [i64]; omega, by simp only [i64]; omega⟩, ?_⟩
          · simp only; omega
          · (apply Go.Ab.V.G.weak; constructor <;> simp (config := {decide := true}) only [PT.Le, inV, mkB, PT.set, VSt.kill, VSt.adopt, VSt.alloc, PT.filt, PT.map, List.map_cons, List.map_nil, noref, norefB, deadB, deadV, nos, nm, nmL, nmB, nmE, Pa.eqb, cond_true, cond_false, Bool.not_true, Bool.not_false, Bool.and_true, Bool.true_and, nmL_vi, flV_len, flP_len, flV_nm, flV_ok, flV_pv, flP_map, drop_flP, drop_flV, putC_flV, eqV2, eqV3, bneT, bneF, decide_true, decide_false, frzL_vi, frzL_flV, nmE_ag, nmE_at, frzE_ag, frzE_at, ofAg_len, ofAt_len, atL_vi, nmL_map_p, frzL_map_p, okL_p, toPVs_p, repsZ, nmL_reps, putC_vi, get_flV0, get_flV1, Int.toNat_zero, Int.toNat_one, Int.reduceToNat, eqV_slice, eqV_ptr, eqV_func, nilS, nilP, nilF, nmL_append, true_or, or_true, and_self, true_and, and_true, Option.some.injEq, reduceCtorEq, false_or, or_false, VV.p.injEq, PV.at.injEq, Value.int.injEq, sl1, vi, bl1, vb, nilV])
            (all_goals first | rfl | omega | exact ⟨rfl, by omega⟩)
      · have k1 := Two_un A B M hT hd
        have k2 := TwoWay_un A B M true hT hd
        have k3 := TwoWay_un A B M false hT hd
        have k4 := Measurable_ok A B M hT
        rw [decide_eq_false hd] at k4
        unfold okT at hT
        (repeat (first | refine VC.seq ?_ | refine VC.block ?_ | refine VC.kill ?_ | refine VC.skip ?_ | refine VC.exit ?_ | refine VC.regA ?_ | refine VC.condT ?_ | refine VC.condF ?_))
        (refine VC.regCA ?_; refine VO.moreA ?_; refine VO.call0A (no_orc _ (by decide)) k1 ?_; refine VO.endA ?_; (repeat (first | refine VC.seq ?_ | refine VC.block ?_ | refine VC.kill ?_ | refine VC.skip ?_ | refine VC.exit ?_ | refine VC.regA ?_ | refine VC.condT ?_ | refine VC.condF ?_)))
        (refine VC.regCA ?_; refine VO.moreA ?_; refine VO.call0A (no_orc _ (by decide)) k2 ?_; refine VO.endA ?_; (repeat (first | refine VC.seq ?_ | refine VC.block ?_ | refine VC.kill ?_ | refine VC.skip ?_ | refine VC.exit ?_ | refine VC.regA ?_ | refine VC.condT ?_ | refine VC.condF ?_)))
        (refine VC.regCA ?_; refine VO.moreA ?_; refine VO.call0A (no_orc _ (by decide)) k3 ?_; refine VO.endA ?_; (repeat (first | refine VC.seq ?_ | refine VC.block ?_ | refine VC.kill ?_ | refine VC.skip ?_ | refine VC.exit ?_ | refine VC.regA ?_ | refine VC.condT ?_ | refine VC.condF ?_)))
        (refine VC.regCA ?_; refine VO.moreA ?_; refine VO.call0A (no_orc _ (by decide)) k4 ?_; refine VO.endA ?_; (repeat (first | refine VC.seq ?_ | refine VC.block ?_ | refine VC.kill ?_ | refine VC.skip ?_ | refine VC.exit ?_ | refine VC.regA ?_ | refine VC.condT ?_ | refine VC.condF ?_)))
        have hx1 : 1 ≤ 1 + (A : Int) % 18446744073709551616 % 1000 ∧ 1 + (A : Int) % 18446744073709551616 % 1000 ≤ 1000 := by omega
        have hx2 : 1 ≤ 1 + (B : Int) % 18446744073709551616 % 1000 ∧ 1 + (B : Int) % 18446744073709551616 % 1000 ≤ 1000 := by omega
        have hx3 : 0 ≤ (M : Int) % 18446744073709551616 := Int.emod_nonneg _ (by decide)
        generalize 1 + (A : Int) % 18446744073709551616 % 1000 = a1 at *
        generalize 1 + (B : Int) % 18446744073709551616 % 1000 = b1 at *
        refine VC.condA ?_ ?_ <;> intro hk1 <;> (simp only [decide_eq_true_eq, decide_eq_false_iff_not, bne_iff_ne, ne_eq, bne_eq_false_iff_eq, beq_iff_eq, beq_eq_false_iff_ne, Bool.not_eq_true', Bool.not_eq_false', Bool.and_eq_true, Bool.or_eq_true, Int.natCast_inj] at hk1)
        · have hy1 : 1 ≤ 1 + a1 % 30 ∧ 1 + a1 % 30 ≤ 30 := by omega
          have hy2 : 1 ≤ 1 + b1 % 30 ∧ 1 + b1 % 30 ≤ 30 := by omega
          have hz0 : 0 ≤ (M : Int) % 18446744073709551616 % ((max (1 + a1 % 30) (1 + b1 % 30) + 1) % 18446744073709551616) := Int.emod_nonneg _ (by omega)
          have hz1 : (M : Int) % 18446744073709551616 % ((max (1 + a1 % 30) (1 + b1 % 30) + 1) % 18446744073709551616) < (max (1 + a1 % 30) (1 + b1 % 30) + 1) := Int.lt_of_lt_of_le (Int.emod_lt_of_pos _ (by omega)) (by omega)
          (repeat (first | refine VC.seq ?_ | refine VC.block ?_ | refine VC.kill ?_ | refine VC.skip ?_ | refine VC.exit ?_ | refine VC.regA ?_ | refine VC.condT ?_ | refine VC.condF ?_))
          refine ⟨_, (1 + a1 % 30, 1 + b1 % 30, (M : Int) % 18446744073709551616 % ((max (1 + a1 % 30) (1 + b1 % 30) + 1) % 18446744073709551616), k + 1), ?_, ⟨rfl, by simp only; omega, by simp only [i64]; omega, by simp only [i64]; omega, by simp only [i64]; omega⟩, ?_⟩
          · simp only; omega
          · (apply Go.Ab.V.G.weak; constructor <;> simp (config := {decide := true}) only [PT.Le, inV, mkB, PT.set, VSt.kill, VSt.adopt, VSt.alloc, PT.filt, PT.map, List.map_cons, List.map_nil, noref, norefB, deadB, deadV, nos, nm, nmL, nmB, nmE, Pa.eqb, cond_true, cond_false, Bool.not_true, Bool.not_false, Bool.and_true, Bool.true_and, nmL_vi, flV_len, flP_len, flV_nm, flV_ok, flV_pv, flP_map, drop_flP, drop_flV, putC_flV, eqV2, eqV3, bneT, bneF, decide_true, decide_false, frzL_vi, frzL_flV, nmE_ag, nmE_at, frzE_ag, frzE_at, ofAg_len, ofAt_len, atL_vi, nmL_map_p, frzL_map_p, okL_p, toPVs_p, repsZ, nmL_reps, putC_vi, get_flV0, get_flV1, Int.toNat_zero, Int.toNat_one, Int.reduceToNat, eqV_slice, eqV_ptr, eqV_func, nilS, nilP, nilF, nmL_append, true_or, or_true, and_self, true_and, and_true, Option.some.injEq, reduceCtorEq, false_or, or_false, VV.p.injEq, PV.at.injEq, Value.int.injEq, sl1, vi, bl1, vb, nilV])
            (all_goals first | rfl | omega | exact ⟨rfl, by omega⟩)
        · have hz0 : 0 ≤ (M : Int) % 18446744073709551616 % ((max a1 b1 + 1) % 18446744073709551616) := Int.emod_nonneg _ (by omega)
          have hz1 : (M : Int) % 18446744073709551616 % ((max a1 b1 + 1) % 18446744073709551616) < (max a1 b1 + 1) := Int.lt_of_lt_of_le (Int.emod_lt_of_pos _ (by omega)) (by omega)
          (repeat (first | refine VC.seq ?_ | refine VC.block ?_ | refine VC.kill ?_ | refine VC.skip ?_ | refine VC.exit ?_ | refine VC.regA ?_ | refine VC.condT ?_ | refine VC.condF ?_))
          refine ⟨_, (a1, b1, (M : Int) % 18446744073709551616 % ((max a1 b1 + 1) % 18446744073709551616), k + 1), ?_, ⟨rfl, by simp only; omega, by simp only [i64]; omega, by simp only [i64]; omega, by simp only [i64]; omega⟩, ?_⟩
          · simp only; omega
          · (apply Go.Ab.V.G.weak; constructor <;> simp (config := {decide := true}) only [PT.Le, inV, mkB, PT.set, VSt.kill, VSt.adopt, VSt.alloc, PT.filt, PT.map, List.map_cons, List.map_nil, noref, norefB, deadB, deadV, nos, nm, nmL, nmB, nmE, Pa.eqb, cond_true, cond_false, Bool.not_true, Bool.not_false, Bool.and_true, Bool.true_and, nmL_vi, flV_len, flP_len, flV_nm, flV_ok, flV_pv, flP_map, drop_flP, drop_flV, putC_flV, eqV2, eqV3, bneT, bneF, decide_true, decide_false, frzL_vi, frzL_flV, nmE_ag, nmE_at, frzE_ag, frzE_at, ofAg_len, ofAt_len, atL_vi, nmL_map_p, frzL_map_p, okL_p, toPVs_p, repsZ, nmL_reps, putC_vi, get_flV0, get_flV1, Int.toNat_zero, Int.toNat_one, Int.reduceToNat, eqV_slice, eqV_ptr, eqV_func, nilS, nilP, nilF, nmL_append, true_or, or_true, and_self, true_and, and_true, Option.some.injEq, reduceCtorEq, false_or, or_false, VV.p.injEq, PV.at.injEq, Value.int.injEq, sl1, vi, bl1, vb, nilV])
            (all_goals first | rfl | omega | exact ⟨rfl, by omega⟩)
    · have k1 := Two_no a b m hT hm
      have k2 := TwoWay_no a b m true hT
      have k3 := TwoWay_no a b m false hT
      have hT' : a < 1 ∨ (¬a < 1 ∧ a > 1000) ∨ (¬a < 1 ∧ ¬a > 1000 ∧ b < 1) ∨ (¬a < 1 ∧ ¬a > 1000 ∧ ¬b < 1 ∧ b > 1000) ∨ (¬a < 1 ∧ ¬a > 1000 ∧ ¬b < 1 ∧ ¬b > 1000 ∧ m < 0) ∨ (¬a < 1 ∧ ¬a > 1000 ∧ ¬b < 1 ∧ ¬b > 1000 ∧ ¬m < 0 ∧ m > max a b) := by unfold okT at hT; omega
      clear hT
      (repeat (first | refine VC.seq ?_ | refine VC.block ?_ | refine VC.kill ?_ | refine VC.skip ?_ | refine VC.exit ?_ | refine VC.regA ?_ | refine VC.condT ?_ | refine VC.condF ?_))
      (refine VC.regCA ?_; refine VO.moreA ?_; refine VO.call0A (no_orc _ (by decide)) k1 ?_; refine VO.endA ?_; (repeat (first | refine VC.seq ?_ | refine VC.block ?_ | refine VC.kill ?_ | refine VC.skip ?_ | refine VC.exit ?_ | refine VC.regA ?_ | refine VC.condT ?_ | refine VC.condF ?_)))
      (refine VC.regCA ?_; refine VO.moreA ?_; refine VO.call0A (no_orc _ (by decide)) k2 ?_; refine VO.endA ?_; (repeat (first | refine VC.seq ?_ | refine VC.block ?_ | refine VC.kill ?_ | refine VC.skip ?_ | refine VC.exit ?_ | refine VC.regA ?_ | refine VC.condT ?_ | refine VC.condF ?_)))
      (refine VC.regCA ?_; refine VO.moreA ?_; refine VO.call0A (no_orc _ (by decide)) k3 ?_; refine VO.endA ?_; (repeat (first | refine VC.seq ?_ | refine VC.block ?_ | refine VC.kill ?_ | refine VC.skip ?_ | refine VC.exit ?_ | refine VC.regA ?_ | refine VC.condT ?_ | refine VC.condF ?_)))
      rcases hT' with h1 | ⟨h1, h2⟩ | ⟨h1, h2, h3⟩ | ⟨h1, h2, h3, h4⟩ | ⟨h1, h2, h3, h4, h5⟩ | ⟨h1, h2, h3, h4, h5, h6⟩
      all_goals
        (repeat (first | refine VC.seq ?_ | refine VC.block ?_ | refine VC.kill ?_ | refine VC.skip ?_ | refine VC.exit ?_ | refine VC.regA ?_ | refine VC.condT ?_ | refine VC.condF ?_))
        have hx1 : 1 ≤ 1 + a % 18446744073709551616 % 1000 ∧ 1 + a % 18446744073709551616 % 1000 ≤ 1000 := by omega
        have hx2 : 1 ≤ 1 + b % 18446744073709551616 % 1000 ∧ 1 + b % 18446744073709551616 % 1000 ≤ 1000 := by omega
        have hx3 : 0 ≤ m % 18446744073709551616 := Int.emod_nonneg _ (by decide)
        generalize 1 + a % 18446744073709551616 % 1000 = a1 at *
        generalize 1 + b % 18446744073709551616 % 1000 = b1 at *
        refine VC.condA ?_ ?_ <;> intro hk1 <;> (simp only [decide_eq_true_eq, decide_eq_false_iff_not, bne_iff_ne, ne_eq, bne_eq_false_iff_eq, beq_iff_eq, beq_eq_false_iff_ne, Bool.not_eq_true', Bool.not_eq_false', Bool.and_eq_true, Bool.or_eq_true, Int.natCast_inj] at hk1)
        · have hy1 : 1 ≤ 1 + a1 % 30 ∧ 1 + a1 % 30 ≤ 30 := by omega
          have hy2 : 1 ≤ 1 + b1 % 30 ∧ 1 + b1 % 30 ≤ 30 := by omega
          have hz0 : 0 ≤ m % 18446744073709551616 % ((max (1 + a1 % 30) (1 + b1 % 30) + 1) % 18446744073709551616) := Int.emod_nonneg _ (by omega)
          have hz1 : m % 18446744073709551616 % ((max (1 + a1 % 30) (1 + b1 % 30) + 1) % 18446744073709551616) < (max (1 + a1 % 30) (1 + b1 % 30) + 1) := Int.lt_of_lt_of_le (Int.emod_lt_of_pos _ (by omega)) (by omega)
          (repeat (first | refine VC.seq ?_ | refine VC.block ?_ | refine VC.kill ?_ | refine VC.skip ?_ | refine VC.exit ?_ | refine VC.regA ?_ | refine VC.condT ?_ | refine VC.condF ?_))
          refine ⟨_, (1 + a1 % 30, 1 + b1 % 30, m % 18446744073709551616 % ((max (1 + a1 % 30) (1 + b1 % 30) + 1) % 18446744073709551616), k + 1), ?_, ⟨rfl, by simp only; omega, by simp only [i64]; omega, by simp only [i64]; omega, by simp only [i64]; omega⟩, ?_⟩
          · simp only; omega
          · (apply Go.Ab.V.G.weak; constructor <;> simp (config := {decide := true}) only [PT.Le, inV, mkB, PT.set, VSt.kill, VSt.adopt, VSt.alloc, PT.filt, PT.map, List.map_cons, List.map_nil, noref, norefB, deadB, deadV, nos, nm, nmL, nmB, nmE, Pa.eqb, cond_true, cond_false, Bool.not_true, Bool.not_false, Bool.and_true, Bool.true_and, nmL_vi, flV_len, flP_len, flV_nm, flV_ok, flV_pv, flP_map, drop_flP, drop_flV, putC_flV, eqV2, eqV3, bneT, bneF, decide_true, decide_false, frzL_vi, frzL_flV, nmE_ag, nmE_at, frzE_ag, frzE_at, ofAg_len, ofAt_len, atL_vi, nmL_map_p, frzL_map_p, okL_p, toPVs_p, repsZ, nmL_reps, putC_vi, get_flV0, get_flV1, Int.toNat_zero, Int.toNat_one, Int.reduceToNat, eqV_slice, eqV_ptr, eqV_func, nilS, nilP, nilF, nmL_append, true_or, or_true, and_self, true_and, and_true, Option.some.injEq, reduceCtorEq, false_or, or_false, VV.p.injEq, PV.at.injEq, Value.int.injEq, sl1, vi, bl1, vb, nilV])
            (all_goals first | rfl | omega | exact ⟨rfl, by omega⟩)
        · have hz0 : 0 ≤ m % 18446744073709551616 % ((max a1 b1 + 1) % 18446744073709551616) := Int.emod_nonneg _ (by omega)
          have hz1 : m % 18446744073709551616 % ((max a1 b1 + 1) % 18446744073709551616) < (max a1 b1 + 1) := Int.lt_of_lt_of_le (Int.emod_lt_of_pos _ (by omega)) (by omega)
          (repeat (first | refine VC.seq ?_ | refine VC.block ?_ | refine VC.kill ?_ | refine VC.skip ?_ | refine VC.exit ?_ | refine VC.regA ?_ | refine VC.condT ?_ | refine VC.condF ?_))
          refine ⟨_, (a1, b1, m % 18446744073709551616 % ((max a1 b1 + 1) % 18446744073709551616), k + 1), ?_, ⟨rfl, by simp only; omega, by simp only [i64]; omega, by simp only [i64]; omega, by simp only [i64]; omega⟩, ?_⟩
          · simp only; omega
          · (apply Go.Ab.V.G.weak; constructor <;> simp (config := {decide := true}) only [PT.Le, inV, mkB, PT.set, VSt.kill, VSt.adopt, VSt.alloc, PT.filt, PT.map, List.map_cons, List.map_nil, noref, norefB, deadB, deadV, nos, nm, nmL, nmB, nmE, Pa.eqb, cond_true, cond_false, Bool.not_true, Bool.not_false, Bool.and_true, Bool.true_and, nmL_vi, flV_len, flP_len, flV_nm, flV_ok, flV_pv, flP_map, drop_flP, drop_flV, putC_flV, eqV2, eqV3, bneT, bneF, decide_true, decide_false, frzL_vi, frzL_flV, nmE_ag, nmE_at, frzE_ag, frzE_at, ofAg_len, ofAt_len, atL_vi, nmL_map_p, frzL_map_p, okL_p, toPVs_p, repsZ, nmL_reps, putC_vi, get_flV0, get_flV1, Int.toNat_zero, Int.toNat_one, Int.reduceToNat, eqV_slice, eqV_ptr, eqV_func, nilS, nilP, nilF, nmL_append, true_or, or_true, and_self, true_and, and_true, Option.some.injEq, reduceCtorEq, false_or, or_false, VV.p.injEq, PV.at.injEq, Value.int.injEq, sl1, vi, bl1, vb, nilV])
            (all_goals first | rfl | omega | exact ⟨rfl, by omega⟩)
  · (repeat (first | refine VC.seq ?_ | refine VC.block ?_ | refine VC.kill ?_ | refine VC.skip ?_ | refine VC.exit ?_ | refine VC.regA ?_ | refine VC.condT ?_ | refine VC.condF ?_))
    refine VC.regCA ?_
    refine VO.moreA ?_
    refine VO.knownA (.bool true) rfl ?_
    refine VO.endA ?_
    (repeat (first | refine VC.seq ?_ | refine VC.block ?_ | refine VC.kill ?_ | refine VC.skip ?_ | refine VC.exit ?_ | refine VC.regA ?_ | refine VC.condT ?_ | refine VC.condF ?_))
    exact VC.ret (Fin.A rfl)
end Go.Ab.Jug

namespace Go.Ab.Jug
theorem lit_i64 {a : Int} (h : (Go.Lit.int .i64 a).wf = true) : i64 a := by
  unfold i64
  have h' : decide (-9223372036854775808 ≤ a) = true ∧ decide (a ≤ 9223372036854775807) = true := by
    first
    | exact (Bool.and_eq_true _ _).mp h
    | (have := of_decide_eq_true h; exact ⟨decide_eq_true this.1, decide_eq_true this.2⟩)
  exact ⟨of_decide_eq_true h'.1, of_decide_eq_true h'.2⟩
end Go.Ab.Jug

namespace Go.Proofs.Ytcbhobkfffgfdaa.jugTwos
open Go.ChangeShapes Go.WideShapes Go.ChangeAt Go.RowKit
open Go.ChangeMaps (open_string shut_string)
open Go.Ab Go.Ab.V Go.Ab.Jug
set_option linter.unusedVariables false
theorem own : ownKnob Try.prog.godebug = none := by kernel_rfl
theorem laidOut : laidOutB Try.prog = true := by kernel_rfl
theorem orc : OrcOK Try.prog cfg := orcOK mixed tab0 (fun h => by cases h) rfl awake_closed
theorem tab : TabOK Try.prog cfg := tab0
set_option maxRecDepth 100000 in
theorem lifted (os : Os) (started : os.Started) (H : Type) (enc : TypeId × Value → H) :
    ReturnsInHanded {} Try.checked os 5 .any (Rows.jugTwosSpec.pre6 enc Try.prog Try.f5 Rows.jugTwosRow.domain false) (Rows.jugTwosSpec.post enc Try.prog Try.f5 false true false false) := by
  refine returnsInHanded_of_change (C := Try.checked) own started (by kernel_rfl) Try.func5
    (ChangeSpec.witness6 (enc := enc) (C := Try.checked) false ⟨#[], #[.int .i64 0, .int .i64 0, .int .i64 0], []⟩ 8 (by kernel_rfl) (by kernel_rfl) (by kernel_rfl) (by kernel_rfl)) ?_
  intro W base args ds gs before hval0 hW hcnd _
  have hval : ∀ (j : Nat) t v, Try.f5.params[j]? = some t → args[j]? = some v → Value.okWide Try.prog W .any base t v := hval0
  have hW' := hW
  obtain ⟨p, q, hA0, hV, rfl, hfz, hnd⟩ := hW
  have hA : DataW.TrodAll enc Try.prog W 0 (fun _ => true) true Try.f5.params.toList args.toList ds p := hA0
  rw [Try.params5] at hA hval
  obtain ⟨v0, vs0, d0, ds0, p0, q0, hargs, rfl, rfl, h0, r0⟩ := trodAll_cons hA
  obtain ⟨v1, vs1, d1, ds1, p1, q1, rfl, rfl, rfl, h1, r1⟩ := trodAll_cons r0
  obtain ⟨v2, vs2, d2, ds2, p2, q2, rfl, rfl, rfl, h2, r2⟩ := trodAll_cons r1
  obtain ⟨rfl, rfl, rfl⟩ := trodAll_nil r2
  obtain rfl : args = #[v0, v1, v2] := by cases args; simp_all
  obtain ⟨rfl, rfl⟩ := trodVars_none hV
  obtain ⟨a0, rfl, rfl, rfl, w0⟩ := open_int Try.underlying3 (hval 0 3 v0 rfl rfl) h0
  obtain ⟨a1, rfl, rfl, rfl, w1⟩ := open_int Try.underlying3 (hval 1 3 v1 rfl rfl) h1
  obtain ⟨a2, rfl, rfl, rfl, w2⟩ := open_int Try.underlying3 (hval 2 3 v2 rfl rfl) h2
  clear hA0 hval0
  refine (calls_true mixed tab orc (twos_law _ _ _ (lit_i64 w0) (lit_i64 w1) (lit_i64 w2)) (All2.cons (.p (.at rfl)) (All2.cons (.p (.at rfl)) (All2.cons (.p (.at rfl)) .nil))) (LR.cons (.int _ _) (LR.cons (.int _ _) (LR.cons (.int _ _) (LR.nil _))))).mono fun e W' ⟨he, bel⟩ => ?_
  subst he
  exact ⟨_, rfl, _, _, _, [], _, [], hW', trodAll_mk1 (shut_bool Try.underlying4 _), (trodAll_cons_mk (shut_int Try.underlying3 w0) (trodAll_cons_mk (shut_int Try.underlying3 w1) (trodAll_cons_mk (shut_int Try.underlying3 w2) trodAll_mk0))), rfl, bel.frame _, fun h => by cases h⟩
theorem over : Rows.jugTwosRow.holds Try.pinned (OpenSpec.ofChange Rows.jugTwosSpec) :=
  OpenClaim.holds_of_wide 5 Try.f5 rfl rfl rfl rfl rfl rfl rfl ⟨rfl, rfl, rfl, rfl, rfl⟩ rfl rfl rfl rfl rfl (by kernel_rfl) Try.func5 (by kernel_rfl)
    (of_decide_eq_true (by kernel_rfl)) (by unfold Func.isWrapper; first | (rw [if_pos (by decide +kernel)]; kernel_rfl) | (rw [if_neg (by decide +kernel)]; exact ⟨rfl, rfl⟩))
    (fun os started H enc _ => lifted os started H enc)
theorem proved : Rows.JugTwosSaid := over
end Go.Proofs.Ytcbhobkfffgfdaa.jugTwos
namespace Go.Proofs.Ytcbhobkfffgfdaa
/-- The row, under a short name, for the claim. -/
theorem jugTwos_holds : Rows.JugTwosSaid := jugTwos.proved
end Go.Proofs.Ytcbhobkfffgfdaa
