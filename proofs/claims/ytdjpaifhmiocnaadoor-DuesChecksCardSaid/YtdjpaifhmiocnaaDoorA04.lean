/- A part of the proof of a law: an evaluator of the code, proved sound against the model, and contracts of functions over it. No condition. -/
import Derived.Test.YtdjpaifhmiocnaaDoorProg
import Derived.Test.YtdjpaifhmiocnaaDoorRows
import Derived.LaidLaws
import Derived.Handed
import Derived.KernelRfl
import Derived.Test.YtdjpaifhmiocnaaDoorA03
set_option linter.unusedSimpArgs false
set_option linter.unusedVariables false
namespace Go.Ab.Dues
noncomputable section
set_option maxRecDepth 100000
@[reducible] def p0 : Pa := .z
@[reducible] def p1 : Pa := (.l .z)
@[reducible] def p2 : Pa := (.r .z)
@[reducible] def p3 : Pa := (.l (.l .z))
@[reducible] def p4 : Pa := (.r (.l .z))
@[reducible] def p5 : Pa := (.l (.r .z))
@[reducible] def p6 : Pa := (.r (.r .z))
@[reducible] def p7 : Pa := (.l (.l (.l .z)))
@[reducible] def p8 : Pa := (.r (.l (.l .z)))
@[reducible] def p9 : Pa := (.l (.r (.l .z)))
@[reducible] def p10 : Pa := (.r (.r (.l .z)))
@[reducible] def p11 : Pa := (.l (.l (.r .z)))
@[reducible] def p12 : Pa := (.r (.l (.r .z)))
@[reducible] def p13 : Pa := (.l (.r (.r .z)))
@[reducible] def p14 : Pa := (.r (.r (.r .z)))
@[reducible] def p15 : Pa := (.l (.l (.l (.l .z))))
@[reducible] def p16 : Pa := (.r (.l (.l (.l .z))))
@[reducible] def p17 : Pa := (.l (.r (.l (.l .z))))
@[reducible] def p18 : Pa := (.r (.r (.l (.l .z))))
@[reducible] def p19 : Pa := (.l (.l (.r (.l .z))))
@[reducible] def p20 : Pa := (.r (.l (.r (.l .z))))
@[reducible] def p21 : Pa := (.l (.r (.r (.l .z))))
@[reducible] def p22 : Pa := (.r (.r (.r (.l .z))))
@[reducible] def p23 : Pa := (.l (.l (.l (.r .z))))
@[reducible] def p24 : Pa := (.r (.l (.l (.r .z))))
@[reducible] def p25 : Pa := (.l (.r (.l (.r .z))))
@[reducible] def p26 : Pa := (.r (.r (.l (.r .z))))
@[reducible] def p27 : Pa := (.l (.l (.r (.r .z))))
@[reducible] def p28 : Pa := (.r (.l (.r (.r .z))))
@[reducible] def p29 : Pa := (.l (.r (.r (.r .z))))
@[reducible] def p30 : Pa := (.r (.r (.r (.r .z))))
@[reducible] def p31 : Pa := (.l (.l (.l (.l (.l .z)))))
@[reducible] def p32 : Pa := (.r (.l (.l (.l (.l .z)))))
@[reducible] def p33 : Pa := (.l (.r (.l (.l (.l .z)))))
@[reducible] def p34 : Pa := (.r (.r (.l (.l (.l .z)))))
@[reducible] def p35 : Pa := (.l (.l (.r (.l (.l .z)))))
@[reducible] def p36 : Pa := (.r (.l (.r (.l (.l .z)))))
@[reducible] def p37 : Pa := (.l (.r (.r (.l (.l .z)))))
@[reducible] def p38 : Pa := (.r (.r (.r (.l (.l .z)))))
@[reducible] def p39 : Pa := (.l (.l (.l (.r (.l .z)))))
@[reducible] def p40 : Pa := (.r (.l (.l (.r (.l .z)))))
@[reducible] def p41 : Pa := (.l (.r (.l (.r (.l .z)))))
@[reducible] def p42 : Pa := (.r (.r (.l (.r (.l .z)))))
@[reducible] def p43 : Pa := (.l (.l (.r (.r (.l .z)))))
@[reducible] def p44 : Pa := (.r (.l (.r (.r (.l .z)))))
@[reducible] def p45 : Pa := (.l (.r (.r (.r (.l .z)))))
@[reducible] def p46 : Pa := (.r (.r (.r (.r (.l .z)))))
@[reducible] def p47 : Pa := (.l (.l (.l (.l (.r .z)))))
@[reducible] def p48 : Pa := (.r (.l (.l (.l (.r .z)))))
@[reducible] def p49 : Pa := (.l (.r (.l (.l (.r .z)))))
@[reducible] def p50 : Pa := (.r (.r (.l (.l (.r .z)))))
@[reducible] def p51 : Pa := (.l (.l (.r (.l (.r .z)))))
@[reducible] def p52 : Pa := (.r (.l (.r (.l (.r .z)))))
@[reducible] def p53 : Pa := (.l (.r (.r (.l (.r .z)))))
@[reducible] def p54 : Pa := (.r (.r (.r (.l (.r .z)))))
@[reducible] def p55 : Pa := (.l (.l (.l (.r (.r .z)))))
@[reducible] def p56 : Pa := (.r (.l (.l (.r (.r .z)))))
@[reducible] def p57 : Pa := (.l (.r (.l (.r (.r .z)))))
@[reducible] def p58 : Pa := (.r (.r (.l (.r (.r .z)))))
@[reducible] def p59 : Pa := (.l (.l (.r (.r (.r .z)))))
@[reducible] def p60 : Pa := (.r (.l (.r (.r (.r .z)))))
@[reducible] def p61 : Pa := (.l (.r (.r (.r (.r .z)))))
@[reducible] def p62 : Pa := (.r (.r (.r (.r (.r .z)))))
@[reducible] def p63 : Pa := (.l (.l (.l (.l (.l (.l .z))))))
@[reducible] def p64 : Pa := (.r (.l (.l (.l (.l (.l .z))))))
@[reducible] def p65 : Pa := (.l (.r (.l (.l (.l (.l .z))))))
@[reducible] def p66 : Pa := (.r (.r (.l (.l (.l (.l .z))))))
@[reducible] def p67 : Pa := (.l (.l (.r (.l (.l (.l .z))))))
@[reducible] def p68 : Pa := (.r (.l (.r (.l (.l (.l .z))))))
@[reducible] def p69 : Pa := (.l (.r (.r (.l (.l (.l .z))))))
@[reducible] def p70 : Pa := (.r (.r (.r (.l (.l (.l .z))))))
@[reducible] def p71 : Pa := (.l (.l (.l (.r (.l (.l .z))))))
@[reducible] def p72 : Pa := (.r (.l (.l (.r (.l (.l .z))))))
@[reducible] def p73 : Pa := (.l (.r (.l (.r (.l (.l .z))))))
@[reducible] def p74 : Pa := (.r (.r (.l (.r (.l (.l .z))))))
@[reducible] def p75 : Pa := (.l (.l (.r (.r (.l (.l .z))))))
@[reducible] def p76 : Pa := (.r (.l (.r (.r (.l (.l .z))))))
@[reducible] def p77 : Pa := (.l (.r (.r (.r (.l (.l .z))))))
@[reducible] def p78 : Pa := (.r (.r (.r (.r (.l (.l .z))))))
@[reducible] def p79 : Pa := (.l (.l (.l (.l (.r (.l .z))))))
@[reducible] def p80 : Pa := (.r (.l (.l (.l (.r (.l .z))))))
@[reducible] def p81 : Pa := (.l (.r (.l (.l (.r (.l .z))))))
@[reducible] def p82 : Pa := (.r (.r (.l (.l (.r (.l .z))))))
@[reducible] def p83 : Pa := (.l (.l (.r (.l (.r (.l .z))))))
@[reducible] def p84 : Pa := (.r (.l (.r (.l (.r (.l .z))))))
@[reducible] def p85 : Pa := (.l (.r (.r (.l (.r (.l .z))))))
@[reducible] def p86 : Pa := (.r (.r (.r (.l (.r (.l .z))))))
@[reducible] def p87 : Pa := (.l (.l (.l (.r (.r (.l .z))))))
@[reducible] def p88 : Pa := (.r (.l (.l (.r (.r (.l .z))))))
@[reducible] def p89 : Pa := (.l (.r (.l (.r (.r (.l .z))))))
@[reducible] def p90 : Pa := (.r (.r (.l (.r (.r (.l .z))))))
@[reducible] def p91 : Pa := (.l (.l (.r (.r (.r (.l .z))))))
@[reducible] def p92 : Pa := (.r (.l (.r (.r (.r (.l .z))))))
@[reducible] def p93 : Pa := (.l (.r (.r (.r (.r (.l .z))))))
@[reducible] def p94 : Pa := (.r (.r (.r (.r (.r (.l .z))))))
@[reducible] def p95 : Pa := (.l (.l (.l (.l (.l (.r .z))))))
@[reducible] def p96 : Pa := (.r (.l (.l (.l (.l (.r .z))))))
@[reducible] def p97 : Pa := (.l (.r (.l (.l (.l (.r .z))))))
@[reducible] def p98 : Pa := (.r (.r (.l (.l (.l (.r .z))))))
@[reducible] def p99 : Pa := (.l (.l (.r (.l (.l (.r .z))))))
@[reducible] def p100 : Pa := (.r (.l (.r (.l (.l (.r .z))))))
@[reducible] def p101 : Pa := (.l (.r (.r (.l (.l (.r .z))))))
@[reducible] def p102 : Pa := (.r (.r (.r (.l (.l (.r .z))))))
@[reducible] def p103 : Pa := (.l (.l (.l (.r (.l (.r .z))))))
@[reducible] def p104 : Pa := (.r (.l (.l (.r (.l (.r .z))))))
@[reducible] def p105 : Pa := (.l (.r (.l (.r (.l (.r .z))))))
@[reducible] def p106 : Pa := (.r (.r (.l (.r (.l (.r .z))))))
@[reducible] def p107 : Pa := (.l (.l (.r (.r (.l (.r .z))))))
@[reducible] def p108 : Pa := (.r (.l (.r (.r (.l (.r .z))))))
@[reducible] def p109 : Pa := (.l (.r (.r (.r (.l (.r .z))))))
@[reducible] def p110 : Pa := (.r (.r (.r (.r (.l (.r .z))))))
@[reducible] def p111 : Pa := (.l (.l (.l (.l (.r (.r .z))))))
@[reducible] def p112 : Pa := (.r (.l (.l (.l (.r (.r .z))))))
@[reducible] def p113 : Pa := (.l (.r (.l (.l (.r (.r .z))))))
@[reducible] def p114 : Pa := (.r (.r (.l (.l (.r (.r .z))))))
@[reducible] def p115 : Pa := (.l (.l (.r (.l (.r (.r .z))))))
@[reducible] def p116 : Pa := (.r (.l (.r (.l (.r (.r .z))))))
@[reducible] def p117 : Pa := (.l (.r (.r (.l (.r (.r .z))))))
@[reducible] def p118 : Pa := (.r (.r (.r (.l (.r (.r .z))))))
@[reducible] def p119 : Pa := (.l (.l (.l (.r (.r (.r .z))))))
@[reducible] def p120 : Pa := (.r (.l (.l (.r (.r (.r .z))))))
@[reducible] def p121 : Pa := (.l (.r (.l (.r (.r (.r .z))))))
@[reducible] def p122 : Pa := (.r (.r (.l (.r (.r (.r .z))))))
@[reducible] def p123 : Pa := (.l (.l (.r (.r (.r (.r .z))))))
@[reducible] def p124 : Pa := (.r (.l (.r (.r (.r (.r .z))))))
@[reducible] def p125 : Pa := (.l (.r (.r (.r (.r (.r .z))))))
@[reducible] def p126 : Pa := (.r (.r (.r (.r (.r (.r .z))))))
@[reducible] def p127 : Pa := (.l (.l (.l (.l (.l (.l (.l .z)))))))
@[reducible] def p128 : Pa := (.r (.l (.l (.l (.l (.l (.l .z)))))))
@[reducible] def p129 : Pa := (.l (.r (.l (.l (.l (.l (.l .z)))))))
@[reducible] def p130 : Pa := (.r (.r (.l (.l (.l (.l (.l .z)))))))
@[reducible] def p131 : Pa := (.l (.l (.r (.l (.l (.l (.l .z)))))))
@[reducible] def p132 : Pa := (.r (.l (.r (.l (.l (.l (.l .z)))))))
@[reducible] def p133 : Pa := (.l (.r (.r (.l (.l (.l (.l .z)))))))
@[reducible] def p134 : Pa := (.r (.r (.r (.l (.l (.l (.l .z)))))))
@[reducible] def p135 : Pa := (.l (.l (.l (.r (.l (.l (.l .z)))))))
@[reducible] def p136 : Pa := (.r (.l (.l (.r (.l (.l (.l .z)))))))
@[reducible] def p137 : Pa := (.l (.r (.l (.r (.l (.l (.l .z)))))))
@[reducible] def p138 : Pa := (.r (.r (.l (.r (.l (.l (.l .z)))))))
@[reducible] def p139 : Pa := (.l (.l (.r (.r (.l (.l (.l .z)))))))
@[reducible] def p140 : Pa := (.r (.l (.r (.r (.l (.l (.l .z)))))))
@[reducible] def p141 : Pa := (.l (.r (.r (.r (.l (.l (.l .z)))))))
@[reducible] def p142 : Pa := (.r (.r (.r (.r (.l (.l (.l .z)))))))
@[reducible] def p143 : Pa := (.l (.l (.l (.l (.r (.l (.l .z)))))))
@[reducible] def p144 : Pa := (.r (.l (.l (.l (.r (.l (.l .z)))))))
@[reducible] def p145 : Pa := (.l (.r (.l (.l (.r (.l (.l .z)))))))
@[reducible] def p146 : Pa := (.r (.r (.l (.l (.r (.l (.l .z)))))))
@[reducible] def p147 : Pa := (.l (.l (.r (.l (.r (.l (.l .z)))))))
@[reducible] def p148 : Pa := (.r (.l (.r (.l (.r (.l (.l .z)))))))
@[reducible] def p149 : Pa := (.l (.r (.r (.l (.r (.l (.l .z)))))))
@[reducible] def p150 : Pa := (.r (.r (.r (.l (.r (.l (.l .z)))))))
@[reducible] def p151 : Pa := (.l (.l (.l (.r (.r (.l (.l .z)))))))
@[reducible] def p152 : Pa := (.r (.l (.l (.r (.r (.l (.l .z)))))))
@[reducible] def p153 : Pa := (.l (.r (.l (.r (.r (.l (.l .z)))))))
@[reducible] def p154 : Pa := (.r (.r (.l (.r (.r (.l (.l .z)))))))
@[reducible] def p155 : Pa := (.l (.l (.r (.r (.r (.l (.l .z)))))))
@[reducible] def p156 : Pa := (.r (.l (.r (.r (.r (.l (.l .z)))))))
@[reducible] def p157 : Pa := (.l (.r (.r (.r (.r (.l (.l .z)))))))
@[reducible] def p158 : Pa := (.r (.r (.r (.r (.r (.l (.l .z)))))))
@[reducible] def p159 : Pa := (.l (.l (.l (.l (.l (.r (.l .z)))))))
@[reducible] def p160 : Pa := (.r (.l (.l (.l (.l (.r (.l .z)))))))
@[reducible] def p161 : Pa := (.l (.r (.l (.l (.l (.r (.l .z)))))))
@[reducible] def p162 : Pa := (.r (.r (.l (.l (.l (.r (.l .z)))))))
@[reducible] def p163 : Pa := (.l (.l (.r (.l (.l (.r (.l .z)))))))
@[reducible] def p164 : Pa := (.r (.l (.r (.l (.l (.r (.l .z)))))))
@[reducible] def p165 : Pa := (.l (.r (.r (.l (.l (.r (.l .z)))))))
@[reducible] def p166 : Pa := (.r (.r (.r (.l (.l (.r (.l .z)))))))
@[reducible] def p167 : Pa := (.l (.l (.l (.r (.l (.r (.l .z)))))))
@[reducible] def p168 : Pa := (.r (.l (.l (.r (.l (.r (.l .z)))))))
@[reducible] def p169 : Pa := (.l (.r (.l (.r (.l (.r (.l .z)))))))
@[reducible] def p170 : Pa := (.r (.r (.l (.r (.l (.r (.l .z)))))))
@[reducible] def p171 : Pa := (.l (.l (.r (.r (.l (.r (.l .z)))))))
@[reducible] def p172 : Pa := (.r (.l (.r (.r (.l (.r (.l .z)))))))
@[reducible] def p173 : Pa := (.l (.r (.r (.r (.l (.r (.l .z)))))))
@[reducible] def p174 : Pa := (.r (.r (.r (.r (.l (.r (.l .z)))))))
@[reducible] def p175 : Pa := (.l (.l (.l (.l (.r (.r (.l .z)))))))
@[reducible] def p176 : Pa := (.r (.l (.l (.l (.r (.r (.l .z)))))))
@[reducible] def p177 : Pa := (.l (.r (.l (.l (.r (.r (.l .z)))))))
@[reducible] def p178 : Pa := (.r (.r (.l (.l (.r (.r (.l .z)))))))
@[reducible] def p179 : Pa := (.l (.l (.r (.l (.r (.r (.l .z)))))))
@[reducible] def p180 : Pa := (.r (.l (.r (.l (.r (.r (.l .z)))))))
@[reducible] def p181 : Pa := (.l (.r (.r (.l (.r (.r (.l .z)))))))
@[reducible] def p182 : Pa := (.r (.r (.r (.l (.r (.r (.l .z)))))))
@[reducible] def p183 : Pa := (.l (.l (.l (.r (.r (.r (.l .z)))))))
@[reducible] def p184 : Pa := (.r (.l (.l (.r (.r (.r (.l .z)))))))
@[reducible] def p185 : Pa := (.l (.r (.l (.r (.r (.r (.l .z)))))))
@[reducible] def p186 : Pa := (.r (.r (.l (.r (.r (.r (.l .z)))))))
@[reducible] def p187 : Pa := (.l (.l (.r (.r (.r (.r (.l .z)))))))
@[reducible] def p188 : Pa := (.r (.l (.r (.r (.r (.r (.l .z)))))))
@[reducible] def p189 : Pa := (.l (.r (.r (.r (.r (.r (.l .z)))))))
@[reducible] def p190 : Pa := (.r (.r (.r (.r (.r (.r (.l .z)))))))
@[reducible] def p191 : Pa := (.l (.l (.l (.l (.l (.l (.r .z)))))))
@[reducible] def p192 : Pa := (.r (.l (.l (.l (.l (.l (.r .z)))))))
@[reducible] def p193 : Pa := (.l (.r (.l (.l (.l (.l (.r .z)))))))
@[reducible] def p194 : Pa := (.r (.r (.l (.l (.l (.l (.r .z)))))))
@[reducible] def p195 : Pa := (.l (.l (.r (.l (.l (.l (.r .z)))))))
@[reducible] def p196 : Pa := (.r (.l (.r (.l (.l (.l (.r .z)))))))
@[reducible] def p197 : Pa := (.l (.r (.r (.l (.l (.l (.r .z)))))))
@[reducible] def p198 : Pa := (.r (.r (.r (.l (.l (.l (.r .z)))))))
@[reducible] def p199 : Pa := (.l (.l (.l (.r (.l (.l (.r .z)))))))
@[reducible] def p200 : Pa := (.r (.l (.l (.r (.l (.l (.r .z)))))))
@[reducible] def p201 : Pa := (.l (.r (.l (.r (.l (.l (.r .z)))))))
@[reducible] def p202 : Pa := (.r (.r (.l (.r (.l (.l (.r .z)))))))
@[reducible] def p203 : Pa := (.l (.l (.r (.r (.l (.l (.r .z)))))))
@[reducible] def p204 : Pa := (.r (.l (.r (.r (.l (.l (.r .z)))))))
@[reducible] def p205 : Pa := (.l (.r (.r (.r (.l (.l (.r .z)))))))
@[reducible] def p206 : Pa := (.r (.r (.r (.r (.l (.l (.r .z)))))))
@[reducible] def p207 : Pa := (.l (.l (.l (.l (.r (.l (.r .z)))))))
@[reducible] def p208 : Pa := (.r (.l (.l (.l (.r (.l (.r .z)))))))
@[reducible] def p209 : Pa := (.l (.r (.l (.l (.r (.l (.r .z)))))))
@[reducible] def p210 : Pa := (.r (.r (.l (.l (.r (.l (.r .z)))))))
@[reducible] def p211 : Pa := (.l (.l (.r (.l (.r (.l (.r .z)))))))
@[reducible] def p212 : Pa := (.r (.l (.r (.l (.r (.l (.r .z)))))))
@[reducible] def p213 : Pa := (.l (.r (.r (.l (.r (.l (.r .z)))))))
@[reducible] def p214 : Pa := (.r (.r (.r (.l (.r (.l (.r .z)))))))
@[reducible] def p215 : Pa := (.l (.l (.l (.r (.r (.l (.r .z)))))))
@[reducible] def p216 : Pa := (.r (.l (.l (.r (.r (.l (.r .z)))))))
@[reducible] def p217 : Pa := (.l (.r (.l (.r (.r (.l (.r .z)))))))
@[reducible] def p218 : Pa := (.r (.r (.l (.r (.r (.l (.r .z)))))))
@[reducible] def p219 : Pa := (.l (.l (.r (.r (.r (.l (.r .z)))))))
@[reducible] def p220 : Pa := (.r (.l (.r (.r (.r (.l (.r .z)))))))
@[reducible] def p221 : Pa := (.l (.r (.r (.r (.r (.l (.r .z)))))))
@[reducible] def p222 : Pa := (.r (.r (.r (.r (.r (.l (.r .z)))))))
@[reducible] def p223 : Pa := (.l (.l (.l (.l (.l (.r (.r .z)))))))
@[reducible] def p224 : Pa := (.r (.l (.l (.l (.l (.r (.r .z)))))))
@[reducible] def p225 : Pa := (.l (.r (.l (.l (.l (.r (.r .z)))))))
@[reducible] def p226 : Pa := (.r (.r (.l (.l (.l (.r (.r .z)))))))
@[reducible] def p227 : Pa := (.l (.l (.r (.l (.l (.r (.r .z)))))))
@[reducible] def p228 : Pa := (.r (.l (.r (.l (.l (.r (.r .z)))))))
@[reducible] def p229 : Pa := (.l (.r (.r (.l (.l (.r (.r .z)))))))
@[reducible] def p230 : Pa := (.r (.r (.r (.l (.l (.r (.r .z)))))))
@[reducible] def p231 : Pa := (.l (.l (.l (.r (.l (.r (.r .z)))))))
@[reducible] def p232 : Pa := (.r (.l (.l (.r (.l (.r (.r .z)))))))
@[reducible] def p233 : Pa := (.l (.r (.l (.r (.l (.r (.r .z)))))))
@[reducible] def p234 : Pa := (.r (.r (.l (.r (.l (.r (.r .z)))))))
@[reducible] def p235 : Pa := (.l (.l (.r (.r (.l (.r (.r .z)))))))
@[reducible] def p236 : Pa := (.r (.l (.r (.r (.l (.r (.r .z)))))))
@[reducible] def p237 : Pa := (.l (.r (.r (.r (.l (.r (.r .z)))))))
@[reducible] def p238 : Pa := (.r (.r (.r (.r (.l (.r (.r .z)))))))
@[reducible] def p239 : Pa := (.l (.l (.l (.l (.r (.r (.r .z)))))))
@[reducible] def p240 : Pa := (.r (.l (.l (.l (.r (.r (.r .z)))))))
@[reducible] def p241 : Pa := (.l (.r (.l (.l (.r (.r (.r .z)))))))
@[reducible] def p242 : Pa := (.r (.r (.l (.l (.r (.r (.r .z)))))))
@[reducible] def p243 : Pa := (.l (.l (.r (.l (.r (.r (.r .z)))))))
@[reducible] def p244 : Pa := (.r (.l (.r (.l (.r (.r (.r .z)))))))
@[reducible] def p245 : Pa := (.l (.r (.r (.l (.r (.r (.r .z)))))))
@[reducible] def p246 : Pa := (.r (.r (.r (.l (.r (.r (.r .z)))))))
@[reducible] def p247 : Pa := (.l (.l (.l (.r (.r (.r (.r .z)))))))
@[reducible] def p248 : Pa := (.r (.l (.l (.r (.r (.r (.r .z)))))))
@[reducible] def p249 : Pa := (.l (.r (.l (.r (.r (.r (.r .z)))))))
@[reducible] def p250 : Pa := (.r (.r (.l (.r (.r (.r (.r .z)))))))
@[reducible] def p251 : Pa := (.l (.l (.r (.r (.r (.r (.r .z)))))))
@[reducible] def p252 : Pa := (.r (.l (.r (.r (.r (.r (.r .z)))))))
@[reducible] def p253 : Pa := (.l (.r (.r (.r (.r (.r (.r .z)))))))
@[reducible] def p254 : Pa := (.r (.r (.r (.r (.r (.r (.r .z)))))))
@[reducible] def p255 : Pa := (.l (.l (.l (.l (.l (.l (.l (.l .z))))))))
@[reducible] def p256 : Pa := (.r (.l (.l (.l (.l (.l (.l (.l .z))))))))
@[reducible] def p257 : Pa := (.l (.r (.l (.l (.l (.l (.l (.l .z))))))))
@[reducible] def p258 : Pa := (.r (.r (.l (.l (.l (.l (.l (.l .z))))))))
@[reducible] def p259 : Pa := (.l (.l (.r (.l (.l (.l (.l (.l .z))))))))
@[reducible] def p260 : Pa := (.r (.l (.r (.l (.l (.l (.l (.l .z))))))))
@[reducible] def p261 : Pa := (.l (.r (.r (.l (.l (.l (.l (.l .z))))))))
@[reducible] def p262 : Pa := (.r (.r (.r (.l (.l (.l (.l (.l .z))))))))
@[reducible] def p263 : Pa := (.l (.l (.l (.r (.l (.l (.l (.l .z))))))))
@[reducible] def p264 : Pa := (.r (.l (.l (.r (.l (.l (.l (.l .z))))))))
@[reducible] def p265 : Pa := (.l (.r (.l (.r (.l (.l (.l (.l .z))))))))
@[reducible] def p266 : Pa := (.r (.r (.l (.r (.l (.l (.l (.l .z))))))))
@[reducible] def p267 : Pa := (.l (.l (.r (.r (.l (.l (.l (.l .z))))))))
@[reducible] def p268 : Pa := (.r (.l (.r (.r (.l (.l (.l (.l .z))))))))
@[reducible] def p269 : Pa := (.l (.r (.r (.r (.l (.l (.l (.l .z))))))))
@[reducible] def p270 : Pa := (.r (.r (.r (.r (.l (.l (.l (.l .z))))))))
@[reducible] def p271 : Pa := (.l (.l (.l (.l (.r (.l (.l (.l .z))))))))
@[reducible] def p272 : Pa := (.r (.l (.l (.l (.r (.l (.l (.l .z))))))))
@[reducible] def p273 : Pa := (.l (.r (.l (.l (.r (.l (.l (.l .z))))))))
@[reducible] def p274 : Pa := (.r (.r (.l (.l (.r (.l (.l (.l .z))))))))
@[reducible] def p275 : Pa := (.l (.l (.r (.l (.r (.l (.l (.l .z))))))))
@[reducible] def p276 : Pa := (.r (.l (.r (.l (.r (.l (.l (.l .z))))))))
def i4 : ST := (.nd undef (.nd undef (.nd undef .lf .lf) .lf) (.nd undef .lf .lf))
def i6 : ST := (.nd undef (.nd undef (.nd undef .lf .lf) (.nd undef .lf .lf)) (.nd undef (.nd undef .lf .lf) .lf))
def i8 : ST := (.nd undef (.nd undef (.nd undef (.nd undef .lf .lf) .lf) (.nd undef .lf .lf)) (.nd undef (.nd undef .lf .lf) (.nd undef .lf .lf)))
def i9 : ST := (.nd undef (.nd undef (.nd undef (.nd undef .lf .lf) .lf) (.nd undef .lf .lf)) (.nd undef (.nd undef (.nd undef .lf .lf) .lf) (.nd undef .lf .lf)))
def i11 : ST := (.nd undef (.nd undef (.nd undef (.nd undef .lf .lf) .lf) (.nd undef (.nd undef .lf .lf) .lf)) (.nd undef (.nd undef (.nd undef .lf .lf) .lf) (.nd undef (.nd undef .lf .lf) .lf)))
def i12 : ST := (.nd undef (.nd undef (.nd undef (.nd undef .lf .lf) (.nd undef .lf .lf)) (.nd undef (.nd undef .lf .lf) .lf)) (.nd undef (.nd undef (.nd undef .lf .lf) .lf) (.nd undef (.nd undef .lf .lf) .lf)))
def i13 : ST := (.nd undef (.nd undef (.nd undef (.nd undef .lf .lf) (.nd undef .lf .lf)) (.nd undef (.nd undef .lf .lf) .lf)) (.nd undef (.nd undef (.nd undef .lf .lf) (.nd undef .lf .lf)) (.nd undef (.nd undef .lf .lf) .lf)))
def i14 : ST := (.nd undef (.nd undef (.nd undef (.nd undef .lf .lf) (.nd undef .lf .lf)) (.nd undef (.nd undef .lf .lf) (.nd undef .lf .lf))) (.nd undef (.nd undef (.nd undef .lf .lf) (.nd undef .lf .lf)) (.nd undef (.nd undef .lf .lf) .lf)))
def i15 : ST := (.nd undef (.nd undef (.nd undef (.nd undef .lf .lf) (.nd undef .lf .lf)) (.nd undef (.nd undef .lf .lf) (.nd undef .lf .lf))) (.nd undef (.nd undef (.nd undef .lf .lf) (.nd undef .lf .lf)) (.nd undef (.nd undef .lf .lf) (.nd undef .lf .lf))))
def i17 : ST := (.nd undef (.nd undef (.nd undef (.nd undef (.nd undef .lf .lf) .lf) (.nd undef .lf .lf)) (.nd undef (.nd undef .lf .lf) (.nd undef .lf .lf))) (.nd undef (.nd undef (.nd undef (.nd undef .lf .lf) .lf) (.nd undef .lf .lf)) (.nd undef (.nd undef .lf .lf) (.nd undef .lf .lf))))
def i18 : ST := (.nd undef (.nd undef (.nd undef (.nd undef (.nd undef .lf .lf) .lf) (.nd undef .lf .lf)) (.nd undef (.nd undef (.nd undef .lf .lf) .lf) (.nd undef .lf .lf))) (.nd undef (.nd undef (.nd undef (.nd undef .lf .lf) .lf) (.nd undef .lf .lf)) (.nd undef (.nd undef .lf .lf) (.nd undef .lf .lf))))
def i19 : ST := (.nd undef (.nd undef (.nd undef (.nd undef (.nd undef .lf .lf) .lf) (.nd undef .lf .lf)) (.nd undef (.nd undef (.nd undef .lf .lf) .lf) (.nd undef .lf .lf))) (.nd undef (.nd undef (.nd undef (.nd undef .lf .lf) .lf) (.nd undef .lf .lf)) (.nd undef (.nd undef (.nd undef .lf .lf) .lf) (.nd undef .lf .lf))))
def i20 : ST := (.nd undef (.nd undef (.nd undef (.nd undef (.nd undef .lf .lf) .lf) (.nd undef (.nd undef .lf .lf) .lf)) (.nd undef (.nd undef (.nd undef .lf .lf) .lf) (.nd undef .lf .lf))) (.nd undef (.nd undef (.nd undef (.nd undef .lf .lf) .lf) (.nd undef .lf .lf)) (.nd undef (.nd undef (.nd undef .lf .lf) .lf) (.nd undef .lf .lf))))
def i22 : ST := (.nd undef (.nd undef (.nd undef (.nd undef (.nd undef .lf .lf) .lf) (.nd undef (.nd undef .lf .lf) .lf)) (.nd undef (.nd undef (.nd undef .lf .lf) .lf) (.nd undef (.nd undef .lf .lf) .lf))) (.nd undef (.nd undef (.nd undef (.nd undef .lf .lf) .lf) (.nd undef (.nd undef .lf .lf) .lf)) (.nd undef (.nd undef (.nd undef .lf .lf) .lf) (.nd undef .lf .lf))))
def i24 : ST := (.nd undef (.nd undef (.nd undef (.nd undef (.nd undef .lf .lf) (.nd undef .lf .lf)) (.nd undef (.nd undef .lf .lf) .lf)) (.nd undef (.nd undef (.nd undef .lf .lf) .lf) (.nd undef (.nd undef .lf .lf) .lf))) (.nd undef (.nd undef (.nd undef (.nd undef .lf .lf) .lf) (.nd undef (.nd undef .lf .lf) .lf)) (.nd undef (.nd undef (.nd undef .lf .lf) .lf) (.nd undef (.nd undef .lf .lf) .lf))))
def i25 : ST := (.nd undef (.nd undef (.nd undef (.nd undef (.nd undef .lf .lf) (.nd undef .lf .lf)) (.nd undef (.nd undef .lf .lf) .lf)) (.nd undef (.nd undef (.nd undef .lf .lf) .lf) (.nd undef (.nd undef .lf .lf) .lf))) (.nd undef (.nd undef (.nd undef (.nd undef .lf .lf) (.nd undef .lf .lf)) (.nd undef (.nd undef .lf .lf) .lf)) (.nd undef (.nd undef (.nd undef .lf .lf) .lf) (.nd undef (.nd undef .lf .lf) .lf))))
def i26 : ST := (.nd undef (.nd undef (.nd undef (.nd undef (.nd undef .lf .lf) (.nd undef .lf .lf)) (.nd undef (.nd undef .lf .lf) .lf)) (.nd undef (.nd undef (.nd undef .lf .lf) (.nd undef .lf .lf)) (.nd undef (.nd undef .lf .lf) .lf))) (.nd undef (.nd undef (.nd undef (.nd undef .lf .lf) (.nd undef .lf .lf)) (.nd undef (.nd undef .lf .lf) .lf)) (.nd undef (.nd undef (.nd undef .lf .lf) .lf) (.nd undef (.nd undef .lf .lf) .lf))))
def i28 : ST := (.nd undef (.nd undef (.nd undef (.nd undef (.nd undef .lf .lf) (.nd undef .lf .lf)) (.nd undef (.nd undef .lf .lf) (.nd undef .lf .lf))) (.nd undef (.nd undef (.nd undef .lf .lf) (.nd undef .lf .lf)) (.nd undef (.nd undef .lf .lf) .lf))) (.nd undef (.nd undef (.nd undef (.nd undef .lf .lf) (.nd undef .lf .lf)) (.nd undef (.nd undef .lf .lf) .lf)) (.nd undef (.nd undef (.nd undef .lf .lf) (.nd undef .lf .lf)) (.nd undef (.nd undef .lf .lf) .lf))))
def i30 : ST := (.nd undef (.nd undef (.nd undef (.nd undef (.nd undef .lf .lf) (.nd undef .lf .lf)) (.nd undef (.nd undef .lf .lf) (.nd undef .lf .lf))) (.nd undef (.nd undef (.nd undef .lf .lf) (.nd undef .lf .lf)) (.nd undef (.nd undef .lf .lf) (.nd undef .lf .lf)))) (.nd undef (.nd undef (.nd undef (.nd undef .lf .lf) (.nd undef .lf .lf)) (.nd undef (.nd undef .lf .lf) (.nd undef .lf .lf))) (.nd undef (.nd undef (.nd undef .lf .lf) (.nd undef .lf .lf)) (.nd undef (.nd undef .lf .lf) .lf))))
def i32 : ST := (.nd undef (.nd undef (.nd undef (.nd undef (.nd undef (.nd undef .lf .lf) .lf) (.nd undef .lf .lf)) (.nd undef (.nd undef .lf .lf) (.nd undef .lf .lf))) (.nd undef (.nd undef (.nd undef .lf .lf) (.nd undef .lf .lf)) (.nd undef (.nd undef .lf .lf) (.nd undef .lf .lf)))) (.nd undef (.nd undef (.nd undef (.nd undef .lf .lf) (.nd undef .lf .lf)) (.nd undef (.nd undef .lf .lf) (.nd undef .lf .lf))) (.nd undef (.nd undef (.nd undef .lf .lf) (.nd undef .lf .lf)) (.nd undef (.nd undef .lf .lf) (.nd undef .lf .lf)))))
def i33 : ST := (.nd undef (.nd undef (.nd undef (.nd undef (.nd undef (.nd undef .lf .lf) .lf) (.nd undef .lf .lf)) (.nd undef (.nd undef .lf .lf) (.nd undef .lf .lf))) (.nd undef (.nd undef (.nd undef .lf .lf) (.nd undef .lf .lf)) (.nd undef (.nd undef .lf .lf) (.nd undef .lf .lf)))) (.nd undef (.nd undef (.nd undef (.nd undef (.nd undef .lf .lf) .lf) (.nd undef .lf .lf)) (.nd undef (.nd undef .lf .lf) (.nd undef .lf .lf))) (.nd undef (.nd undef (.nd undef .lf .lf) (.nd undef .lf .lf)) (.nd undef (.nd undef .lf .lf) (.nd undef .lf .lf)))))
def i39 : ST := (.nd undef (.nd undef (.nd undef (.nd undef (.nd undef (.nd undef .lf .lf) .lf) (.nd undef .lf .lf)) (.nd undef (.nd undef (.nd undef .lf .lf) .lf) (.nd undef .lf .lf))) (.nd undef (.nd undef (.nd undef (.nd undef .lf .lf) .lf) (.nd undef .lf .lf)) (.nd undef (.nd undef (.nd undef .lf .lf) .lf) (.nd undef .lf .lf)))) (.nd undef (.nd undef (.nd undef (.nd undef (.nd undef .lf .lf) .lf) (.nd undef .lf .lf)) (.nd undef (.nd undef (.nd undef .lf .lf) .lf) (.nd undef .lf .lf))) (.nd undef (.nd undef (.nd undef (.nd undef .lf .lf) .lf) (.nd undef .lf .lf)) (.nd undef (.nd undef (.nd undef .lf .lf) .lf) (.nd undef .lf .lf)))))
def i40 : ST := (.nd undef (.nd undef (.nd undef (.nd undef (.nd undef (.nd undef .lf .lf) .lf) (.nd undef (.nd undef .lf .lf) .lf)) (.nd undef (.nd undef (.nd undef .lf .lf) .lf) (.nd undef .lf .lf))) (.nd undef (.nd undef (.nd undef (.nd undef .lf .lf) .lf) (.nd undef .lf .lf)) (.nd undef (.nd undef (.nd undef .lf .lf) .lf) (.nd undef .lf .lf)))) (.nd undef (.nd undef (.nd undef (.nd undef (.nd undef .lf .lf) .lf) (.nd undef .lf .lf)) (.nd undef (.nd undef (.nd undef .lf .lf) .lf) (.nd undef .lf .lf))) (.nd undef (.nd undef (.nd undef (.nd undef .lf .lf) .lf) (.nd undef .lf .lf)) (.nd undef (.nd undef (.nd undef .lf .lf) .lf) (.nd undef .lf .lf)))))
def i42 : ST := (.nd undef (.nd undef (.nd undef (.nd undef (.nd undef (.nd undef .lf .lf) .lf) (.nd undef (.nd undef .lf .lf) .lf)) (.nd undef (.nd undef (.nd undef .lf .lf) .lf) (.nd undef .lf .lf))) (.nd undef (.nd undef (.nd undef (.nd undef .lf .lf) .lf) (.nd undef (.nd undef .lf .lf) .lf)) (.nd undef (.nd undef (.nd undef .lf .lf) .lf) (.nd undef .lf .lf)))) (.nd undef (.nd undef (.nd undef (.nd undef (.nd undef .lf .lf) .lf) (.nd undef (.nd undef .lf .lf) .lf)) (.nd undef (.nd undef (.nd undef .lf .lf) .lf) (.nd undef .lf .lf))) (.nd undef (.nd undef (.nd undef (.nd undef .lf .lf) .lf) (.nd undef .lf .lf)) (.nd undef (.nd undef (.nd undef .lf .lf) .lf) (.nd undef .lf .lf)))))
def i47 : ST := (.nd undef (.nd undef (.nd undef (.nd undef (.nd undef (.nd undef .lf .lf) .lf) (.nd undef (.nd undef .lf .lf) .lf)) (.nd undef (.nd undef (.nd undef .lf .lf) .lf) (.nd undef (.nd undef .lf .lf) .lf))) (.nd undef (.nd undef (.nd undef (.nd undef .lf .lf) .lf) (.nd undef (.nd undef .lf .lf) .lf)) (.nd undef (.nd undef (.nd undef .lf .lf) .lf) (.nd undef (.nd undef .lf .lf) .lf)))) (.nd undef (.nd undef (.nd undef (.nd undef (.nd undef .lf .lf) .lf) (.nd undef (.nd undef .lf .lf) .lf)) (.nd undef (.nd undef (.nd undef .lf .lf) .lf) (.nd undef (.nd undef .lf .lf) .lf))) (.nd undef (.nd undef (.nd undef (.nd undef .lf .lf) .lf) (.nd undef (.nd undef .lf .lf) .lf)) (.nd undef (.nd undef (.nd undef .lf .lf) .lf) (.nd undef (.nd undef .lf .lf) .lf)))))
def i51 : ST := (.nd undef (.nd undef (.nd undef (.nd undef (.nd undef (.nd undef .lf .lf) (.nd undef .lf .lf)) (.nd undef (.nd undef .lf .lf) .lf)) (.nd undef (.nd undef (.nd undef .lf .lf) .lf) (.nd undef (.nd undef .lf .lf) .lf))) (.nd undef (.nd undef (.nd undef (.nd undef .lf .lf) (.nd undef .lf .lf)) (.nd undef (.nd undef .lf .lf) .lf)) (.nd undef (.nd undef (.nd undef .lf .lf) .lf) (.nd undef (.nd undef .lf .lf) .lf)))) (.nd undef (.nd undef (.nd undef (.nd undef (.nd undef .lf .lf) (.nd undef .lf .lf)) (.nd undef (.nd undef .lf .lf) .lf)) (.nd undef (.nd undef (.nd undef .lf .lf) .lf) (.nd undef (.nd undef .lf .lf) .lf))) (.nd undef (.nd undef (.nd undef (.nd undef .lf .lf) (.nd undef .lf .lf)) (.nd undef (.nd undef .lf .lf) .lf)) (.nd undef (.nd undef (.nd undef .lf .lf) .lf) (.nd undef (.nd undef .lf .lf) .lf)))))
def i55 : ST := (.nd undef (.nd undef (.nd undef (.nd undef (.nd undef (.nd undef .lf .lf) (.nd undef .lf .lf)) (.nd undef (.nd undef .lf .lf) .lf)) (.nd undef (.nd undef (.nd undef .lf .lf) (.nd undef .lf .lf)) (.nd undef (.nd undef .lf .lf) .lf))) (.nd undef (.nd undef (.nd undef (.nd undef .lf .lf) (.nd undef .lf .lf)) (.nd undef (.nd undef .lf .lf) .lf)) (.nd undef (.nd undef (.nd undef .lf .lf) (.nd undef .lf .lf)) (.nd undef (.nd undef .lf .lf) .lf)))) (.nd undef (.nd undef (.nd undef (.nd undef (.nd undef .lf .lf) (.nd undef .lf .lf)) (.nd undef (.nd undef .lf .lf) .lf)) (.nd undef (.nd undef (.nd undef .lf .lf) (.nd undef .lf .lf)) (.nd undef (.nd undef .lf .lf) .lf))) (.nd undef (.nd undef (.nd undef (.nd undef .lf .lf) (.nd undef .lf .lf)) (.nd undef (.nd undef .lf .lf) .lf)) (.nd undef (.nd undef (.nd undef .lf .lf) (.nd undef .lf .lf)) (.nd undef (.nd undef .lf .lf) .lf)))))
def i57 : ST := (.nd undef (.nd undef (.nd undef (.nd undef (.nd undef (.nd undef .lf .lf) (.nd undef .lf .lf)) (.nd undef (.nd undef .lf .lf) (.nd undef .lf .lf))) (.nd undef (.nd undef (.nd undef .lf .lf) (.nd undef .lf .lf)) (.nd undef (.nd undef .lf .lf) .lf))) (.nd undef (.nd undef (.nd undef (.nd undef .lf .lf) (.nd undef .lf .lf)) (.nd undef (.nd undef .lf .lf) .lf)) (.nd undef (.nd undef (.nd undef .lf .lf) (.nd undef .lf .lf)) (.nd undef (.nd undef .lf .lf) .lf)))) (.nd undef (.nd undef (.nd undef (.nd undef (.nd undef .lf .lf) (.nd undef .lf .lf)) (.nd undef (.nd undef .lf .lf) (.nd undef .lf .lf))) (.nd undef (.nd undef (.nd undef .lf .lf) (.nd undef .lf .lf)) (.nd undef (.nd undef .lf .lf) .lf))) (.nd undef (.nd undef (.nd undef (.nd undef .lf .lf) (.nd undef .lf .lf)) (.nd undef (.nd undef .lf .lf) .lf)) (.nd undef (.nd undef (.nd undef .lf .lf) (.nd undef .lf .lf)) (.nd undef (.nd undef .lf .lf) .lf)))))
def i60 : ST := (.nd undef (.nd undef (.nd undef (.nd undef (.nd undef (.nd undef .lf .lf) (.nd undef .lf .lf)) (.nd undef (.nd undef .lf .lf) (.nd undef .lf .lf))) (.nd undef (.nd undef (.nd undef .lf .lf) (.nd undef .lf .lf)) (.nd undef (.nd undef .lf .lf) (.nd undef .lf .lf)))) (.nd undef (.nd undef (.nd undef (.nd undef .lf .lf) (.nd undef .lf .lf)) (.nd undef (.nd undef .lf .lf) (.nd undef .lf .lf))) (.nd undef (.nd undef (.nd undef .lf .lf) (.nd undef .lf .lf)) (.nd undef (.nd undef .lf .lf) .lf)))) (.nd undef (.nd undef (.nd undef (.nd undef (.nd undef .lf .lf) (.nd undef .lf .lf)) (.nd undef (.nd undef .lf .lf) (.nd undef .lf .lf))) (.nd undef (.nd undef (.nd undef .lf .lf) (.nd undef .lf .lf)) (.nd undef (.nd undef .lf .lf) .lf))) (.nd undef (.nd undef (.nd undef (.nd undef .lf .lf) (.nd undef .lf .lf)) (.nd undef (.nd undef .lf .lf) (.nd undef .lf .lf))) (.nd undef (.nd undef (.nd undef .lf .lf) (.nd undef .lf .lf)) (.nd undef (.nd undef .lf .lf) .lf)))))
def i72 : ST := (.nd undef (.nd undef (.nd undef (.nd undef (.nd undef (.nd undef (.nd undef .lf .lf) .lf) (.nd undef .lf .lf)) (.nd undef (.nd undef (.nd undef .lf .lf) .lf) (.nd undef .lf .lf))) (.nd undef (.nd undef (.nd undef (.nd undef .lf .lf) .lf) (.nd undef .lf .lf)) (.nd undef (.nd undef .lf .lf) (.nd undef .lf .lf)))) (.nd undef (.nd undef (.nd undef (.nd undef (.nd undef .lf .lf) .lf) (.nd undef .lf .lf)) (.nd undef (.nd undef .lf .lf) (.nd undef .lf .lf))) (.nd undef (.nd undef (.nd undef (.nd undef .lf .lf) .lf) (.nd undef .lf .lf)) (.nd undef (.nd undef .lf .lf) (.nd undef .lf .lf))))) (.nd undef (.nd undef (.nd undef (.nd undef (.nd undef (.nd undef .lf .lf) .lf) (.nd undef .lf .lf)) (.nd undef (.nd undef .lf .lf) (.nd undef .lf .lf))) (.nd undef (.nd undef (.nd undef (.nd undef .lf .lf) .lf) (.nd undef .lf .lf)) (.nd undef (.nd undef .lf .lf) (.nd undef .lf .lf)))) (.nd undef (.nd undef (.nd undef (.nd undef (.nd undef .lf .lf) .lf) (.nd undef .lf .lf)) (.nd undef (.nd undef .lf .lf) (.nd undef .lf .lf))) (.nd undef (.nd undef (.nd undef (.nd undef .lf .lf) .lf) (.nd undef .lf .lf)) (.nd undef (.nd undef .lf .lf) (.nd undef .lf .lf))))))
def i76 : ST := (.nd undef (.nd undef (.nd undef (.nd undef (.nd undef (.nd undef (.nd undef .lf .lf) .lf) (.nd undef .lf .lf)) (.nd undef (.nd undef (.nd undef .lf .lf) .lf) (.nd undef .lf .lf))) (.nd undef (.nd undef (.nd undef (.nd undef .lf .lf) .lf) (.nd undef .lf .lf)) (.nd undef (.nd undef (.nd undef .lf .lf) .lf) (.nd undef .lf .lf)))) (.nd undef (.nd undef (.nd undef (.nd undef (.nd undef .lf .lf) .lf) (.nd undef .lf .lf)) (.nd undef (.nd undef (.nd undef .lf .lf) .lf) (.nd undef .lf .lf))) (.nd undef (.nd undef (.nd undef (.nd undef .lf .lf) .lf) (.nd undef .lf .lf)) (.nd undef (.nd undef .lf .lf) (.nd undef .lf .lf))))) (.nd undef (.nd undef (.nd undef (.nd undef (.nd undef (.nd undef .lf .lf) .lf) (.nd undef .lf .lf)) (.nd undef (.nd undef (.nd undef .lf .lf) .lf) (.nd undef .lf .lf))) (.nd undef (.nd undef (.nd undef (.nd undef .lf .lf) .lf) (.nd undef .lf .lf)) (.nd undef (.nd undef .lf .lf) (.nd undef .lf .lf)))) (.nd undef (.nd undef (.nd undef (.nd undef (.nd undef .lf .lf) .lf) (.nd undef .lf .lf)) (.nd undef (.nd undef (.nd undef .lf .lf) .lf) (.nd undef .lf .lf))) (.nd undef (.nd undef (.nd undef (.nd undef .lf .lf) .lf) (.nd undef .lf .lf)) (.nd undef (.nd undef .lf .lf) (.nd undef .lf .lf))))))
def i90 : ST := (.nd undef (.nd undef (.nd undef (.nd undef (.nd undef (.nd undef (.nd undef .lf .lf) .lf) (.nd undef (.nd undef .lf .lf) .lf)) (.nd undef (.nd undef (.nd undef .lf .lf) .lf) (.nd undef (.nd undef .lf .lf) .lf))) (.nd undef (.nd undef (.nd undef (.nd undef .lf .lf) .lf) (.nd undef (.nd undef .lf .lf) .lf)) (.nd undef (.nd undef (.nd undef .lf .lf) .lf) (.nd undef .lf .lf)))) (.nd undef (.nd undef (.nd undef (.nd undef (.nd undef .lf .lf) .lf) (.nd undef (.nd undef .lf .lf) .lf)) (.nd undef (.nd undef (.nd undef .lf .lf) .lf) (.nd undef (.nd undef .lf .lf) .lf))) (.nd undef (.nd undef (.nd undef (.nd undef .lf .lf) .lf) (.nd undef (.nd undef .lf .lf) .lf)) (.nd undef (.nd undef (.nd undef .lf .lf) .lf) (.nd undef .lf .lf))))) (.nd undef (.nd undef (.nd undef (.nd undef (.nd undef (.nd undef .lf .lf) .lf) (.nd undef (.nd undef .lf .lf) .lf)) (.nd undef (.nd undef (.nd undef .lf .lf) .lf) (.nd undef (.nd undef .lf .lf) .lf))) (.nd undef (.nd undef (.nd undef (.nd undef .lf .lf) .lf) (.nd undef (.nd undef .lf .lf) .lf)) (.nd undef (.nd undef (.nd undef .lf .lf) .lf) (.nd undef .lf .lf)))) (.nd undef (.nd undef (.nd undef (.nd undef (.nd undef .lf .lf) .lf) (.nd undef (.nd undef .lf .lf) .lf)) (.nd undef (.nd undef (.nd undef .lf .lf) .lf) (.nd undef .lf .lf))) (.nd undef (.nd undef (.nd undef (.nd undef .lf .lf) .lf) (.nd undef (.nd undef .lf .lf) .lf)) (.nd undef (.nd undef (.nd undef .lf .lf) .lf) (.nd undef .lf .lf))))))
def i97 : ST := (.nd undef (.nd undef (.nd undef (.nd undef (.nd undef (.nd undef (.nd undef .lf .lf) (.nd undef .lf .lf)) (.nd undef (.nd undef .lf .lf) .lf)) (.nd undef (.nd undef (.nd undef .lf .lf) .lf) (.nd undef (.nd undef .lf .lf) .lf))) (.nd undef (.nd undef (.nd undef (.nd undef .lf .lf) .lf) (.nd undef (.nd undef .lf .lf) .lf)) (.nd undef (.nd undef (.nd undef .lf .lf) .lf) (.nd undef (.nd undef .lf .lf) .lf)))) (.nd undef (.nd undef (.nd undef (.nd undef (.nd undef .lf .lf) .lf) (.nd undef (.nd undef .lf .lf) .lf)) (.nd undef (.nd undef (.nd undef .lf .lf) .lf) (.nd undef (.nd undef .lf .lf) .lf))) (.nd undef (.nd undef (.nd undef (.nd undef .lf .lf) .lf) (.nd undef (.nd undef .lf .lf) .lf)) (.nd undef (.nd undef (.nd undef .lf .lf) .lf) (.nd undef (.nd undef .lf .lf) .lf))))) (.nd undef (.nd undef (.nd undef (.nd undef (.nd undef (.nd undef .lf .lf) (.nd undef .lf .lf)) (.nd undef (.nd undef .lf .lf) .lf)) (.nd undef (.nd undef (.nd undef .lf .lf) .lf) (.nd undef (.nd undef .lf .lf) .lf))) (.nd undef (.nd undef (.nd undef (.nd undef .lf .lf) .lf) (.nd undef (.nd undef .lf .lf) .lf)) (.nd undef (.nd undef (.nd undef .lf .lf) .lf) (.nd undef (.nd undef .lf .lf) .lf)))) (.nd undef (.nd undef (.nd undef (.nd undef (.nd undef .lf .lf) .lf) (.nd undef (.nd undef .lf .lf) .lf)) (.nd undef (.nd undef (.nd undef .lf .lf) .lf) (.nd undef (.nd undef .lf .lf) .lf))) (.nd undef (.nd undef (.nd undef (.nd undef .lf .lf) .lf) (.nd undef (.nd undef .lf .lf) .lf)) (.nd undef (.nd undef (.nd undef .lf .lf) .lf) (.nd undef (.nd undef .lf .lf) .lf))))))
def i124 : ST := (.nd undef (.nd undef (.nd undef (.nd undef (.nd undef (.nd undef (.nd undef .lf .lf) (.nd undef .lf .lf)) (.nd undef (.nd undef .lf .lf) (.nd undef .lf .lf))) (.nd undef (.nd undef (.nd undef .lf .lf) (.nd undef .lf .lf)) (.nd undef (.nd undef .lf .lf) (.nd undef .lf .lf)))) (.nd undef (.nd undef (.nd undef (.nd undef .lf .lf) (.nd undef .lf .lf)) (.nd undef (.nd undef .lf .lf) (.nd undef .lf .lf))) (.nd undef (.nd undef (.nd undef .lf .lf) (.nd undef .lf .lf)) (.nd undef (.nd undef .lf .lf) (.nd undef .lf .lf))))) (.nd undef (.nd undef (.nd undef (.nd undef (.nd undef .lf .lf) (.nd undef .lf .lf)) (.nd undef (.nd undef .lf .lf) (.nd undef .lf .lf))) (.nd undef (.nd undef (.nd undef .lf .lf) (.nd undef .lf .lf)) (.nd undef (.nd undef .lf .lf) (.nd undef .lf .lf)))) (.nd undef (.nd undef (.nd undef (.nd undef .lf .lf) (.nd undef .lf .lf)) (.nd undef (.nd undef .lf .lf) (.nd undef .lf .lf))) (.nd undef (.nd undef (.nd undef .lf .lf) (.nd undef .lf .lf)) (.nd undef (.nd undef .lf .lf) .lf))))) (.nd undef (.nd undef (.nd undef (.nd undef (.nd undef (.nd undef .lf .lf) (.nd undef .lf .lf)) (.nd undef (.nd undef .lf .lf) (.nd undef .lf .lf))) (.nd undef (.nd undef (.nd undef .lf .lf) (.nd undef .lf .lf)) (.nd undef (.nd undef .lf .lf) (.nd undef .lf .lf)))) (.nd undef (.nd undef (.nd undef (.nd undef .lf .lf) (.nd undef .lf .lf)) (.nd undef (.nd undef .lf .lf) (.nd undef .lf .lf))) (.nd undef (.nd undef (.nd undef .lf .lf) (.nd undef .lf .lf)) (.nd undef (.nd undef .lf .lf) .lf)))) (.nd undef (.nd undef (.nd undef (.nd undef (.nd undef .lf .lf) (.nd undef .lf .lf)) (.nd undef (.nd undef .lf .lf) (.nd undef .lf .lf))) (.nd undef (.nd undef (.nd undef .lf .lf) (.nd undef .lf .lf)) (.nd undef (.nd undef .lf .lf) (.nd undef .lf .lf)))) (.nd undef (.nd undef (.nd undef (.nd undef .lf .lf) (.nd undef .lf .lf)) (.nd undef (.nd undef .lf .lf) (.nd undef .lf .lf))) (.nd undef (.nd undef (.nd undef .lf .lf) (.nd undef .lf .lf)) (.nd undef (.nd undef .lf .lf) .lf))))))
def i277 : ST := (.nd undef (.nd undef (.nd undef (.nd undef (.nd undef (.nd undef (.nd undef (.nd undef (.nd undef .lf .lf) .lf) (.nd undef .lf .lf)) (.nd undef (.nd undef .lf .lf) (.nd undef .lf .lf))) (.nd undef (.nd undef (.nd undef (.nd undef .lf .lf) .lf) (.nd undef .lf .lf)) (.nd undef (.nd undef .lf .lf) (.nd undef .lf .lf)))) (.nd undef (.nd undef (.nd undef (.nd undef (.nd undef .lf .lf) .lf) (.nd undef .lf .lf)) (.nd undef (.nd undef .lf .lf) (.nd undef .lf .lf))) (.nd undef (.nd undef (.nd undef .lf .lf) (.nd undef .lf .lf)) (.nd undef (.nd undef .lf .lf) (.nd undef .lf .lf))))) (.nd undef (.nd undef (.nd undef (.nd undef (.nd undef (.nd undef .lf .lf) .lf) (.nd undef .lf .lf)) (.nd undef (.nd undef .lf .lf) (.nd undef .lf .lf))) (.nd undef (.nd undef (.nd undef (.nd undef .lf .lf) .lf) (.nd undef .lf .lf)) (.nd undef (.nd undef .lf .lf) (.nd undef .lf .lf)))) (.nd undef (.nd undef (.nd undef (.nd undef (.nd undef .lf .lf) .lf) (.nd undef .lf .lf)) (.nd undef (.nd undef .lf .lf) (.nd undef .lf .lf))) (.nd undef (.nd undef (.nd undef .lf .lf) (.nd undef .lf .lf)) (.nd undef (.nd undef .lf .lf) (.nd undef .lf .lf)))))) (.nd undef (.nd undef (.nd undef (.nd undef (.nd undef (.nd undef (.nd undef .lf .lf) .lf) (.nd undef .lf .lf)) (.nd undef (.nd undef .lf .lf) (.nd undef .lf .lf))) (.nd undef (.nd undef (.nd undef (.nd undef .lf .lf) .lf) (.nd undef .lf .lf)) (.nd undef (.nd undef .lf .lf) (.nd undef .lf .lf)))) (.nd undef (.nd undef (.nd undef (.nd undef (.nd undef .lf .lf) .lf) (.nd undef .lf .lf)) (.nd undef (.nd undef .lf .lf) (.nd undef .lf .lf))) (.nd undef (.nd undef (.nd undef .lf .lf) (.nd undef .lf .lf)) (.nd undef (.nd undef .lf .lf) (.nd undef .lf .lf))))) (.nd undef (.nd undef (.nd undef (.nd undef (.nd undef (.nd undef .lf .lf) .lf) (.nd undef .lf .lf)) (.nd undef (.nd undef .lf .lf) (.nd undef .lf .lf))) (.nd undef (.nd undef (.nd undef .lf .lf) (.nd undef .lf .lf)) (.nd undef (.nd undef .lf .lf) (.nd undef .lf .lf)))) (.nd undef (.nd undef (.nd undef (.nd undef (.nd undef .lf .lf) .lf) (.nd undef .lf .lf)) (.nd undef (.nd undef .lf .lf) (.nd undef .lf .lf))) (.nd undef (.nd undef (.nd undef .lf .lf) (.nd undef .lf .lf)) (.nd undef (.nd undef .lf .lf) (.nd undef .lf .lf))))))) (.nd undef (.nd undef (.nd undef (.nd undef (.nd undef (.nd undef (.nd undef (.nd undef .lf .lf) .lf) (.nd undef .lf .lf)) (.nd undef (.nd undef .lf .lf) (.nd undef .lf .lf))) (.nd undef (.nd undef (.nd undef (.nd undef .lf .lf) .lf) (.nd undef .lf .lf)) (.nd undef (.nd undef .lf .lf) (.nd undef .lf .lf)))) (.nd undef (.nd undef (.nd undef (.nd undef (.nd undef .lf .lf) .lf) (.nd undef .lf .lf)) (.nd undef (.nd undef .lf .lf) (.nd undef .lf .lf))) (.nd undef (.nd undef (.nd undef .lf .lf) (.nd undef .lf .lf)) (.nd undef (.nd undef .lf .lf) (.nd undef .lf .lf))))) (.nd undef (.nd undef (.nd undef (.nd undef (.nd undef (.nd undef .lf .lf) .lf) (.nd undef .lf .lf)) (.nd undef (.nd undef .lf .lf) (.nd undef .lf .lf))) (.nd undef (.nd undef (.nd undef (.nd undef .lf .lf) .lf) (.nd undef .lf .lf)) (.nd undef (.nd undef .lf .lf) (.nd undef .lf .lf)))) (.nd undef (.nd undef (.nd undef (.nd undef (.nd undef .lf .lf) .lf) (.nd undef .lf .lf)) (.nd undef (.nd undef .lf .lf) (.nd undef .lf .lf))) (.nd undef (.nd undef (.nd undef .lf .lf) (.nd undef .lf .lf)) (.nd undef (.nd undef .lf .lf) (.nd undef .lf .lf)))))) (.nd undef (.nd undef (.nd undef (.nd undef (.nd undef (.nd undef (.nd undef .lf .lf) .lf) (.nd undef .lf .lf)) (.nd undef (.nd undef .lf .lf) (.nd undef .lf .lf))) (.nd undef (.nd undef (.nd undef (.nd undef .lf .lf) .lf) (.nd undef .lf .lf)) (.nd undef (.nd undef .lf .lf) (.nd undef .lf .lf)))) (.nd undef (.nd undef (.nd undef (.nd undef (.nd undef .lf .lf) .lf) (.nd undef .lf .lf)) (.nd undef (.nd undef .lf .lf) (.nd undef .lf .lf))) (.nd undef (.nd undef (.nd undef .lf .lf) (.nd undef .lf .lf)) (.nd undef (.nd undef .lf .lf) (.nd undef .lf .lf))))) (.nd undef (.nd undef (.nd undef (.nd undef (.nd undef (.nd undef .lf .lf) .lf) (.nd undef .lf .lf)) (.nd undef (.nd undef .lf .lf) (.nd undef .lf .lf))) (.nd undef (.nd undef (.nd undef .lf .lf) (.nd undef .lf .lf)) (.nd undef (.nd undef .lf .lf) (.nd undef .lf .lf)))) (.nd undef (.nd undef (.nd undef (.nd undef (.nd undef .lf .lf) .lf) (.nd undef .lf .lf)) (.nd undef (.nd undef .lf .lf) (.nd undef .lf .lf))) (.nd undef (.nd undef (.nd undef .lf .lf) (.nd undef .lf .lf)) (.nd undef (.nd undef .lf .lf) (.nd undef .lf .lf))))))))
def a14 : AFunc := { params := [p0, p1, p2], init := i277, results := [.tmp p6], body := (.seq (.reg [⟨(some p3), none, .box (.t p0)⟩, ⟨(some p6), none, .mov (.c (.bool false))⟩] []) (.kill [p0, p6] (.seq (.reg [⟨(some p38), none, .ld (some 3) (.t p3)⟩, ⟨(some p39), none, .call (.c (.func (.func 48) #[] #[])) [(.t p38)]⟩, ⟨(some p7), none, .zero [(.slice none 0 0), (.slice none 0 0), (.slice none 0 0)]⟩, ⟨none, none, .st 3 (.t p7) (.t p39)⟩] []) (.kill [p3, p38, p39] (.seq (.reg [⟨(some p40), none, .ld (some 3) (.t p7)⟩, ⟨(some p41), none, .call (.c (.func (.func 16) #[] #[])) [(.t p40)]⟩, ⟨(some p8), none, .zero [(.slice none 0 0), (.slice none 0 0), (.slice none 0 0)]⟩, ⟨none, none, .st 3 (.t p8) (.t p41)⟩] []) (.kill [p40, p41] (.seq (.reg [⟨(some p9), none, .mov (.c (.int .i64 100))⟩] []) (.seq (.reg [⟨(some p42), none, .ld (some 3) (.t p7)⟩, ⟨(some p43), none, .call (.c (.func (.func 49) #[] #[])) [(.t p42)]⟩, ⟨(some p10), none, .mov (.t p43)⟩] []) (.kill [p42, p43] (.seq (.seq (.reg [⟨(some p44), none, .ld (some 3) (.t p8)⟩, ⟨(some p45), none, .call (.c (.func (.func 50) #[] #[])) [(.t p44)]⟩, ⟨(some p46), none, .bin .eql (.t p45) (.c (.int .i64 0))⟩, ⟨(some p47), none, .mov (.t p10)⟩, ⟨(some p48), none, .eqs (.bool) true (.t p46) (.t p47)⟩, ⟨(some p49), none, .mov (.t p48)⟩, ⟨(some p50), (some (p49, false)), .mov (.t p10)⟩, ⟨(some p51), (some (p49, false)), .un .not (.t p50)⟩, ⟨(some p52), (some (p49, false)), .mov (.t p51)⟩, ⟨(some p53), (some (p52, true)), .ld (some 3) (.t p8)⟩, ⟨(some p54), (some (p52, true)), .call (.c (.func (.func 50) #[] #[])) [(.t p53)]⟩, ⟨(some p55), (some (p52, true)), .mov (.t p9)⟩, ⟨(some p56), (some (p52, true)), .bin .neq (.t p54) (.t p55)⟩, ⟨(some p57), (some (p49, false)), .pick (.t p52) (.t p56) (.c (.bool false))⟩, ⟨(some p58), none, .pick (.t p49) (.c (.bool true)) (.t p57)⟩] []) (.kill [p44, p45, p46, p47, p48, p49, p50, p51, p52, p53, p54, p55, p56, p57] (.cond (.t p58) (.kill [p58] (.seq (.reg [⟨(some p6), none, .mov (.c (.bool false))⟩] []) .ret)) .skip))) (.kill [p58] (.seq (.reg [⟨(some p59), none, .fad 2 (.t p7)⟩, ⟨(some p60), none, .ld none (.t p59)⟩, ⟨(some p61), none, .len 1 (.t p60)⟩, ⟨(some p11), none, .mov (.t p61)⟩] []) (.kill [p59, p60, p61] (.seq (.reg [⟨(some p62), none, .mov (.t p2)⟩, ⟨(some p63), none, .call (.c (.func (.func 43) #[] #[])) [(.t p62), (.c (.int .i64 8))]⟩, ⟨(some p12), none, .mov (.t p63)⟩] []) (.kill [p2, p62, p63] (.seq (.seq (.reg [⟨(some p64), none, .mov (.t p10)⟩, ⟨(some p65), none, .un .not (.t p64)⟩] []) (.kill [p64] (.cond (.t p65) (.kill [p65] (.seq (.reg [⟨(some p67), none, .ld (some 3) (.t p8)⟩, ⟨(some p68), none, .call (.c (.func (.func 18) #[] #[])) [(.t p67)]⟩, ⟨(some p66), none, .mov (.t p68)⟩, ⟨(some p69), none, .ext 0 (.t p66)⟩, ⟨(some p70), none, .ext 1 (.t p66)⟩, ⟨(some p13), none, .mov (.t p69)⟩, ⟨(some p14), none, .mov (.t p70)⟩] []) (.kill [p66, p67, p68, p69, p70] (.seq (.reg [⟨(some p72), none, .ld (some 3) (.t p8)⟩, ⟨(some p73), none, .call (.c (.func (.func 35) #[] #[])) [(.t p72)]⟩, ⟨(some p71), none, .mov (.t p73)⟩, ⟨(some p74), none, .ext 0 (.t p71)⟩, ⟨(some p75), none, .ext 1 (.t p71)⟩, ⟨(some p15), none, .mov (.t p74)⟩, ⟨(some p16), none, .mov (.t p75)⟩] []) (.kill [p71, p72, p73, p74, p75] (.seq (.reg [⟨(some p77), none, .ld (some 3) (.t p8)⟩, ⟨(some p78), none, .call (.c (.func (.func 25) #[] #[])) [(.t p77), (.c (.slice none 0 0))]⟩, ⟨(some p76), none, .mov (.t p78)⟩, ⟨(some p79), none, .ext 0 (.t p76)⟩, ⟨(some p80), none, .ext 1 (.t p76)⟩, ⟨(some p81), none, .ext 2 (.t p76)⟩, ⟨(some p17), none, .mov (.t p79)⟩, ⟨(some p18), none, .mov (.t p80)⟩, ⟨(some p19), none, .mov (.t p81)⟩] []) (.kill [p76, p77, p78, p79, p80, p81] (.seq (.reg [⟨(some p83), none, .ld (some 3) (.t p8)⟩, ⟨(some p84), none, .call (.c (.func (.func 38) #[] #[])) [(.t p83)]⟩, ⟨(some p82), none, .mov (.t p84)⟩, ⟨(some p85), none, .ext 0 (.t p82)⟩, ⟨(some p86), none, .ext 1 (.t p82)⟩, ⟨(some p20), none, .mov (.t p85)⟩, ⟨(some p21), none, .mov (.t p86)⟩] []) (.kill [p82, p83, p84, p85, p86] (.seq (.reg [⟨(some p88), none, .ld (some 3) (.t p8)⟩, ⟨(some p89), none, .call (.c (.func (.func 28) #[] #[])) [(.t p88), (.c (.int .i64 (-1)))]⟩, ⟨(some p87), none, .mov (.t p89)⟩, ⟨(some p90), none, .ext 0 (.t p87)⟩, ⟨(some p91), none, .ext 1 (.t p87)⟩, ⟨(some p22), none, .mov (.t p90)⟩, ⟨(some p23), none, .mov (.t p91)⟩] []) (.kill [p87, p88, p89, p90, p91] (.seq (.reg [⟨(some p92), none, .mov (.t p14)⟩, ⟨(some p93), none, .mov (.t p9)⟩, ⟨(some p94), none, .bin .neq (.t p92) (.t p93)⟩, ⟨(some p95), none, .mov (.t p94)⟩, ⟨(some p96), (some (p95, false)), .mov (.t p16)⟩, ⟨(some p97), (some (p95, false)), .mov (.t p9)⟩, ⟨(some p98), (some (p95, false)), .bin .neq (.t p96) (.t p97)⟩, ⟨(some p99), none, .pick (.t p95) (.c (.bool true)) (.t p98)⟩, ⟨(some p100), none, .mov (.t p99)⟩, ⟨(some p101), (some (p100, false)), .mov (.t p19)⟩, ⟨(some p102), (some (p100, false)), .mov (.t p9)⟩, ⟨(some p103), (some (p100, false)), .bin .neq (.t p101) (.t p102)⟩, ⟨(some p104), none, .pick (.t p100) (.c (.bool true)) (.t p103)⟩, ⟨(some p105), none, .mov (.t p104)⟩, ⟨(some p106), (some (p105, false)), .mov (.t p21)⟩, ⟨(some p107), (some (p105, false)), .mov (.t p9)⟩, ⟨(some p108), (some (p105, false)), .bin .neq (.t p106) (.t p107)⟩, ⟨(some p109), none, .pick (.t p105) (.c (.bool true)) (.t p108)⟩, ⟨(some p110), none, .mov (.t p109)⟩, ⟨(some p111), (some (p110, false)), .mov (.t p23)⟩, ⟨(some p112), (some (p110, false)), .mov (.t p9)⟩, ⟨(some p113), (some (p110, false)), .bin .neq (.t p111) (.t p112)⟩, ⟨(some p114), none, .pick (.t p110) (.c (.bool true)) (.t p113)⟩, ⟨(some p115), none, .mov (.t p114)⟩, ⟨(some p116), (some (p115, false)), .mov (.t p18)⟩, ⟨(some p117), none, .pick (.t p115) (.c (.bool true)) (.t p116)⟩, ⟨(some p118), none, .mov (.t p117)⟩, ⟨(some p119), (some (p118, false)), .mov (.t p13)⟩, ⟨(some p120), (some (p118, false)), .len 1 (.t p119)⟩, ⟨(some p121), (some (p118, false)), .mov (.t p15)⟩, ⟨(some p122), (some (p118, false)), .len 1 (.t p121)⟩, ⟨(some p123), (some (p118, false)), .bin .add (.t p120) (.t p122)⟩, ⟨(some p124), (some (p118, false)), .mov (.t p17)⟩, ⟨(some p125), (some (p118, false)), .bin .add (.t p123) (.t p124)⟩, ⟨(some p126), (some (p118, false)), .mov (.t p20)⟩, ⟨(some p127), (some (p118, false)), .len 1 (.t p126)⟩, ⟨(some p128), (some (p118, false)), .bin .add (.t p125) (.t p127)⟩, ⟨(some p129), (some (p118, false)), .mov (.t p22)⟩, ⟨(some p130), (some (p118, false)), .len 1 (.t p129)⟩, ⟨(some p131), (some (p118, false)), .bin .add (.t p128) (.t p130)⟩, ⟨(some p132), (some (p118, false)), .bin .neq (.t p131) (.c (.int .i64 0))⟩, ⟨(some p133), none, .pick (.t p118) (.c (.bool true)) (.t p132)⟩] []) (.kill [p13, p14, p15, p16, p17, p18, p19, p20, p21, p22, p23, p92, p93, p94, p95, p96, p97, p98, p99, p100, p101, p102, p103, p104, p105, p106, p107, p108, p109, p110, p111, p112, p113, p114, p115, p116, p117, p118, p119, p120, p121, p122, p123, p124, p125, p126, p127, p128, p129, p130, p131, p132] (.cond (.t p133) (.kill [p133] (.seq (.reg [⟨(some p6), none, .mov (.c (.bool false))⟩] []) .ret)) .skip)))))))))))))) (.kill [p65] (.reg [⟨(some p9), none, .mov (.c (.int .i64 1))⟩] []))))) (.kill [p65, p133] (.seq (.seq (.reg [⟨(some p134), none, .mov (.t p10)⟩, ⟨(some p135), none, .un .not (.t p134)⟩, ⟨(some p136), none, .mov (.t p135)⟩, ⟨(some p137), (some (p136, false)), .ld (some 3) (.t p7)⟩, ⟨(some p138), (some (p136, false)), .mov (.t p12)⟩, ⟨(some p139), (some (p136, false)), .call (.c (.func (.func 51) #[] #[])) [(.t p137), (.t p138)]⟩, ⟨(some p140), (some (p136, false)), .un .not (.t p139)⟩, ⟨(some p141), none, .pick (.t p136) (.c (.bool true)) (.t p140)⟩] []) (.kill [p7, p134, p135, p136, p137, p138, p139, p140] (.cond (.t p141) (.kill [p141] (.seq (.reg [⟨(some p143), none, .ld (some 3) (.t p8)⟩, ⟨(some p144), none, .mov (.t p12)⟩, ⟨(some p145), none, .call (.c (.func (.func 19) #[] #[])) [(.t p143), (.t p144)]⟩, ⟨(some p142), none, .mov (.t p145)⟩, ⟨(some p146), none, .ext 0 (.t p142)⟩, ⟨(some p147), none, .ext 1 (.t p142)⟩, ⟨(some p24), none, .mov (.t p146)⟩, ⟨(some p25), none, .mov (.t p147)⟩] []) (.kill [p12, p142, p143, p144, p145, p146, p147] (.seq (.reg [⟨(some p148), none, .mov (.t p25)⟩, ⟨(some p149), none, .mov (.t p9)⟩, ⟨(some p150), none, .bin .neq (.t p148) (.t p149)⟩, ⟨(some p151), none, .mov (.t p150)⟩, ⟨(some p152), (some (p151, false)), .mov (.t p24)⟩, ⟨(some p153), (some (p151, false)), .len 1 (.t p152)⟩, ⟨(some p154), (some (p151, false)), .bin .neq (.t p153) (.c (.int .i64 0))⟩, ⟨(some p155), none, .pick (.t p151) (.c (.bool true)) (.t p154)⟩] []) (.kill [p24, p25, p148, p149, p150, p151, p152, p153, p154] (.cond (.t p155) (.kill [p155] (.seq (.reg [⟨(some p6), none, .mov (.c (.bool false))⟩] []) .ret)) .skip)))))) .skip))) (.kill [p141, p155] (.seq (.seq (.reg [⟨(some p156), none, .mov (.t p10)⟩, ⟨(some p157), none, .un .not (.t p156)⟩, ⟨(some p158), none, .mov (.t p157)⟩, ⟨(some p159), (some (p158, false)), .mov (.t p1)⟩, ⟨(some p160), (some (p158, false)), .bin .lss (.t p159) (.c (.int .i64 0))⟩, ⟨(some p161), none, .pick (.t p158) (.c (.bool true)) (.t p160)⟩, ⟨(some p162), none, .mov (.t p161)⟩, ⟨(some p163), (some (p162, false)), .mov (.t p1)⟩, ⟨(some p164), (some (p162, false)), .mov (.t p11)⟩, ⟨(some p165), (some (p162, false)), .bin .shl (.c (.int .i64 1)) (.t p164)⟩, ⟨(some p166), (some (p162, false)), .bin .geq (.t p163) (.t p165)⟩, ⟨(some p167), none, .pick (.t p162) (.c (.bool true)) (.t p166)⟩] []) (.kill [p156, p157, p158, p159, p160, p161, p162, p163, p164, p165, p166] (.cond (.t p167) (.kill [p167] (.seq (.reg [⟨(some p169), none, .ld (some 3) (.t p8)⟩, ⟨(some p170), none, .mov (.t p1)⟩, ⟨(some p171), none, .call (.c (.func (.func 31) #[] #[])) [(.t p169), (.t p170)]⟩, ⟨(some p168), none, .mov (.t p171)⟩, ⟨(some p172), none, .ext 0 (.t p168)⟩, ⟨(some p173), none, .ext 1 (.t p168)⟩, ⟨(some p26), none, .mov (.t p172)⟩, ⟨(some p27), none, .mov (.t p173)⟩] []) (.kill [p168, p169, p170, p171, p172, p173] (.seq (.reg [⟨(some p175), none, .ld (some 3) (.t p8)⟩, ⟨(some p176), none, .mov (.t p1)⟩, ⟨(some p177), none, .call (.c (.func (.func 37) #[] #[])) [(.t p175), (.t p176)]⟩, ⟨(some p174), none, .mov (.t p177)⟩, ⟨(some p178), none, .ext 0 (.t p174)⟩, ⟨(some p179), none, .ext 1 (.t p174)⟩, ⟨(some p28), none, .mov (.t p178)⟩, ⟨(some p29), none, .mov (.t p179)⟩] []) (.kill [p174, p175, p176, p177, p178, p179] (.seq (.reg [⟨(some p180), none, .mov (.t p27)⟩, ⟨(some p181), none, .mov (.t p9)⟩, ⟨(some p182), none, .bin .neq (.t p180) (.t p181)⟩, ⟨(some p183), none, .mov (.t p182)⟩, ⟨(some p184), (some (p183, false)), .mov (.t p29)⟩, ⟨(some p185), (some (p183, false)), .mov (.t p9)⟩, ⟨(some p186), (some (p183, false)), .bin .neq (.t p184) (.t p185)⟩, ⟨(some p187), none, .pick (.t p183) (.c (.bool true)) (.t p186)⟩, ⟨(some p188), none, .mov (.t p187)⟩, ⟨(some p189), (some (p188, false)), .mov (.t p26)⟩, ⟨(some p190), (some (p188, false)), .mov (.t p28)⟩, ⟨(some p191), (some (p188, false)), .bin .add (.t p189) (.t p190)⟩, ⟨(some p192), (some (p188, false)), .bin .neq (.t p191) (.c (.int .i64 0))⟩, ⟨(some p193), none, .pick (.t p188) (.c (.bool true)) (.t p192)⟩] []) (.kill [p26, p27, p28, p29, p180, p181, p182, p183, p184, p185, p186, p187, p188, p189, p190, p191, p192] (.cond (.t p193) (.kill [p193] (.seq (.reg [⟨(some p6), none, .mov (.c (.bool false))⟩] []) .ret)) .skip)))))))) .skip))) (.kill [p167, p193] (.seq (.seq (.reg [⟨(some p194), none, .mov (.t p10)⟩, ⟨(some p195), none, .mov (.t p194)⟩, ⟨(some p196), (some (p195, true)), .mov (.t p1)⟩, ⟨(some p197), (some (p195, true)), .bin .geq (.t p196) (.c (.int .i64 0))⟩, ⟨(some p198), none, .pick (.t p195) (.t p197) (.c (.bool false))⟩, ⟨(some p199), none, .mov (.t p198)⟩, ⟨(some p200), (some (p199, true)), .mov (.t p1)⟩, ⟨(some p201), (some (p199, true)), .mov (.t p11)⟩, ⟨(some p202), (some (p199, true)), .bin .lss (.t p200) (.t p201)⟩, ⟨(some p203), none, .pick (.t p199) (.t p202) (.c (.bool false))⟩] []) (.kill [p10, p11, p194, p195, p196, p197, p198, p199, p200, p201, p202] (.cond (.t p203) (.kill [p203] (.seq (.reg [⟨(some p204), none, .call (.c (.func (.func 24) #[] #[])) []⟩, ⟨(some p6), none, .mov (.t p204)⟩] []) .ret)) .skip))) (.kill [p203] (.seq (.reg [⟨(some p206), none, .ld (some 3) (.t p8)⟩, ⟨(some p207), none, .mov (.t p1)⟩, ⟨(some p208), none, .call (.c (.func (.func 41) #[] #[])) [(.t p206), (.t p207)]⟩, ⟨(some p205), none, .mov (.t p208)⟩, ⟨(some p209), none, .ext 0 (.t p205)⟩, ⟨(some p210), none, .ext 1 (.t p205)⟩, ⟨(some p30), none, .mov (.t p209)⟩, ⟨(some p31), none, .mov (.t p210)⟩] []) (.kill [p205, p206, p207, p208, p209, p210] (.seq (.reg [⟨(some p212), none, .ld (some 3) (.t p8)⟩, ⟨(some p213), none, .mov (.t p1)⟩, ⟨(some p214), none, .call (.c (.func (.func 45) #[] #[])) [(.t p212), (.t p213)]⟩, ⟨(some p211), none, .mov (.t p214)⟩, ⟨(some p215), none, .ext 0 (.t p211)⟩, ⟨(some p216), none, .ext 1 (.t p211)⟩, ⟨(some p32), none, .zero [(.int .i64 0), (.int .i64 0)]⟩, ⟨none, none, .st 2 (.t p32) (.t p215)⟩, ⟨(some p33), none, .mov (.t p216)⟩] []) (.kill [p211, p212, p213, p214, p215, p216] (.seq (.reg [⟨(some p218), none, .ld (some 3) (.t p8)⟩, ⟨(some p219), none, .mov (.t p1)⟩, ⟨(some p220), none, .call (.c (.func (.func 46) #[] #[])) [(.t p218), (.t p219)]⟩, ⟨(some p217), none, .mov (.t p220)⟩, ⟨(some p221), none, .ext 0 (.t p217)⟩, ⟨(some p222), none, .ext 1 (.t p217)⟩, ⟨(some p34), none, .zero [(.int .i64 0), (.int .i64 0)]⟩, ⟨none, none, .st 2 (.t p34) (.t p221)⟩, ⟨(some p35), none, .mov (.t p222)⟩] []) (.kill [p217, p218, p219, p220, p221, p222] (.seq (.reg [⟨(some p224), none, .ld (some 3) (.t p8)⟩, ⟨(some p225), none, .mov (.t p1)⟩, ⟨(some p226), none, .call (.c (.func (.func 44) #[] #[])) [(.t p224), (.t p225)]⟩, ⟨(some p223), none, .mov (.t p226)⟩, ⟨(some p227), none, .ext 0 (.t p223)⟩, ⟨(some p228), none, .ext 1 (.t p223)⟩, ⟨(some p36), none, .zero [(.slice none 0 0), (.slice none 0 0), (.slice none 0 0)]⟩, ⟨none, none, .st 3 (.t p36) (.t p227)⟩, ⟨(some p37), none, .mov (.t p228)⟩] []) (.kill [p1, p8, p223, p224, p225, p226, p227, p228] (.seq (.reg [⟨(some p229), none, .mov (.t p31)⟩, ⟨(some p230), none, .mov (.t p9)⟩, ⟨(some p231), none, .bin .eql (.t p229) (.t p230)⟩, ⟨(some p232), none, .mov (.t p231)⟩, ⟨(some p233), (some (p232, true)), .mov (.t p33)⟩, ⟨(some p234), (some (p232, true)), .mov (.t p9)⟩, ⟨(some p235), (some (p232, true)), .bin .eql (.t p233) (.t p234)⟩, ⟨(some p236), none, .pick (.t p232) (.t p235) (.c (.bool false))⟩, ⟨(some p237), none, .mov (.t p236)⟩, ⟨(some p238), (some (p237, true)), .mov (.t p35)⟩, ⟨(some p239), (some (p237, true)), .mov (.t p9)⟩, ⟨(some p240), (some (p237, true)), .bin .eql (.t p238) (.t p239)⟩, ⟨(some p241), none, .pick (.t p237) (.t p240) (.c (.bool false))⟩, ⟨(some p242), none, .mov (.t p241)⟩, ⟨(some p243), (some (p242, true)), .mov (.t p37)⟩, ⟨(some p244), (some (p242, true)), .mov (.t p9)⟩, ⟨(some p245), (some (p242, true)), .bin .eql (.t p243) (.t p244)⟩, ⟨(some p246), none, .pick (.t p242) (.t p245) (.c (.bool false))⟩, ⟨(some p247), none, .mov (.t p246)⟩, ⟨(some p248), (some (p247, true)), .ld (some 2) (.t p32)⟩, ⟨(some p249), (some (p247, true)), .build [(.int .i64 0), (.int .i64 0)] []⟩, ⟨(some p250), (some (p247, true)), .eqs (.cells [.int, .int]) false (.t p248) (.t p249)⟩, ⟨(some p251), none, .pick (.t p247) (.t p250) (.c (.bool false))⟩, ⟨(some p252), none, .mov (.t p251)⟩, ⟨(some p253), (some (p252, true)), .ld (some 2) (.t p34)⟩, ⟨(some p254), (some (p252, true)), .build [(.int .i64 0), (.int .i64 0)] []⟩, ⟨(some p255), (some (p252, true)), .eqs (.cells [.int, .int]) false (.t p253) (.t p254)⟩, ⟨(some p256), none, .pick (.t p252) (.t p255) (.c (.bool false))⟩, ⟨(some p257), none, .mov (.t p256)⟩, ⟨(some p258), (some (p257, true)), .mov (.t p30)⟩, ⟨(some p259), (some (p257, true)), .len 1 (.t p258)⟩, ⟨(some p260), (some (p257, true)), .fad 0 (.t p36)⟩, ⟨(some p261), (some (p257, true)), .ld none (.t p260)⟩, ⟨(some p262), (some (p257, true)), .len 1 (.t p261)⟩, ⟨(some p263), (some (p257, true)), .bin .add (.t p259) (.t p262)⟩, ⟨(some p264), (some (p257, true)), .fad 1 (.t p36)⟩, ⟨(some p265), (some (p257, true)), .ld none (.t p264)⟩, ⟨(some p266), (some (p257, true)), .len 1 (.t p265)⟩, ⟨(some p267), (some (p257, true)), .bin .add (.t p263) (.t p266)⟩, ⟨(some p268), (some (p257, true)), .fad 2 (.t p36)⟩, ⟨(some p269), (some (p257, true)), .ld none (.t p268)⟩, ⟨(some p270), (some (p257, true)), .len 1 (.t p269)⟩, ⟨(some p271), (some (p257, true)), .bin .add (.t p267) (.t p270)⟩, ⟨(some p272), (some (p257, true)), .bin .eql (.t p271) (.c (.int .i64 0))⟩, ⟨(some p273), none, .pick (.t p257) (.t p272) (.c (.bool false))⟩, ⟨(some p274), none, .mov (.t p273)⟩, ⟨(some p275), (some (p274, true)), .call (.c (.func (.func 24) #[] #[])) []⟩, ⟨(some p276), none, .pick (.t p274) (.t p275) (.c (.bool false))⟩, ⟨(some p6), none, .mov (.t p276)⟩] []) .ret)))))))))))))))))))))))))))))))) }
def a16 : AFunc := { params := [p0], init := i13, results := [.cell (some 3) p2], body := (.seq (.reg [⟨(some p1), none, .box (.t p0)⟩, ⟨(some p2), none, .zero [(.slice none 0 0), (.slice none 0 0), (.slice none 0 0)]⟩] []) (.kill [p0] (.seq (.reg [⟨(some p3), none, .fad 0 (.t p1)⟩, ⟨(some p4), none, .ld none (.t p3)⟩, ⟨(some p5), none, .call (.c (.func (.func 43) #[] #[])) [(.t p4), (.c (.int .i64 11))]⟩, ⟨(some p6), none, .fad 1 (.t p1)⟩, ⟨(some p7), none, .ld none (.t p6)⟩, ⟨(some p8), none, .call (.c (.func (.func 43) #[] #[])) [(.t p7), (.c (.int .i64 11))]⟩, ⟨(some p9), none, .fad 2 (.t p1)⟩, ⟨(some p10), none, .ld none (.t p9)⟩, ⟨(some p11), none, .call (.c (.func (.func 43) #[] #[])) [(.t p10), (.c (.int .i64 8))]⟩, ⟨(some p12), none, .build [(.slice none 0 0), (.slice none 0 0), (.slice none 0 0)] [(0, 1, (.t p5)), (1, 1, (.t p8)), (2, 1, (.t p11))]⟩, ⟨none, none, .st 3 (.t p2) (.t p12)⟩] [(4, [2]), (7, [2, 5])]) .ret))) }
def a18 : AFunc := { params := [p0], init := i57, results := [.tmp p2, .tmp p3], body := (.seq (.reg [⟨(some p1), none, .box (.t p0)⟩, ⟨(some p2), none, .mov (.c (.slice none 0 0))⟩, ⟨(some p3), none, .mov (.c (.int .i64 0))⟩] []) (.kill [p0, p2, p3] (.seq (.reg [⟨(some p12), none, .ld (some 3) (.t p1)⟩, ⟨(some p13), none, .call (.c (.func (.func 52) #[] #[])) [(.t p12)]⟩, ⟨(some p11), none, .mov (.t p13)⟩, ⟨(some p14), none, .ext 0 (.t p11)⟩, ⟨(some p15), none, .ext 1 (.t p11)⟩, ⟨(some p4), none, .mov (.t p14)⟩, ⟨(some p5), none, .mov (.t p15)⟩] []) (.kill [p11, p12, p13, p14, p15] (.seq (.seq (.reg [⟨(some p16), none, .mov (.t p5)⟩, ⟨(some p17), none, .bin .neq (.t p16) (.c (.int .i64 0))⟩] []) (.kill [p16] (.cond (.t p17) (.kill [p17] (.seq (.reg [⟨(some p18), none, .mov (.t p5)⟩, ⟨(some p2), none, .mov (.c (.slice none 0 0))⟩, ⟨(some p3), none, .mov (.t p18)⟩] []) .ret)) .skip))) (.kill [p17] (.seq (.reg [⟨(some p6), none, .mov (.c (.slice none 0 0))⟩] []) (.seq (.seq (.reg [⟨(some p19), none, .fad 2 (.t p1)⟩, ⟨(some p20), none, .ld none (.t p19)⟩, ⟨(some p21), none, .len 1 (.t p20)⟩, ⟨(some p22), none, .mov (.c (.int .i64 0))⟩] []) (.kill [p19, p20] (.block 0 (.loop (.seq (.reg [⟨(some p23), none, .bin .lss (.t p22) (.t p21)⟩] []) (.seq (.cond (.t p23) .skip (.exit 0)) (.kill [p23] (.seq (.block 1 (.seq (.reg [⟨(some p24), none, .mov (.t p22)⟩, ⟨(some p7), none, .mov (.t p24)⟩] []) (.kill [p24] (.seq (.reg [⟨(some p25), none, .ld (some 2) (.c (.pointer (some ⟨0, 0, none⟩)))⟩, ⟨(some p8), none, .zero [(.int .i64 0), (.int .i64 0)]⟩, ⟨none, none, .st 2 (.t p8) (.t p25)⟩] []) (.kill [p25] (.seq (.seq (.reg [⟨(some p26), none, .mov (.t p4)⟩, ⟨(some p27), none, .mov (.t p7)⟩, ⟨(some p28), none, .nilchk (.t p26)⟩, ⟨(some p29), none, .fad 3 (.t p28)⟩, ⟨(some p30), none, .iad 7 1 (.t p29) (.t p27)⟩, ⟨(some p31), none, .ld none (.t p30)⟩, ⟨(some p32), none, .call (.c (.func (.func 53) #[] #[])) [(.t p31)]⟩, ⟨(some p33), none, .len 1 (.t p32)⟩, ⟨(some p34), none, .mov (.c (.int .i64 0))⟩] []) (.kill [p7, p26, p27, p28, p29, p30, p31] (.block 2 (.loop (.seq (.reg [⟨(some p35), none, .bin .lss (.t p34) (.t p33)⟩] []) (.seq (.cond (.t p35) .skip (.exit 2)) (.kill [p35] (.seq (.block 3 (.seq (.reg [⟨(some p36), none, .ias 1 (.t p32) (.t p34)⟩, ⟨(some p37), none, .ld none (.t p36)⟩, ⟨(some p10), none, .mov (.t p37)⟩] []) (.kill [p36, p37] (.reg [⟨(some p38), none, .ld (some 2) (.t p8)⟩, ⟨(some p39), none, .fad 1 (.t p1)⟩, ⟨(some p40), none, .ld none (.t p39)⟩, ⟨(some p41), none, .mov (.t p10)⟩, ⟨(some p42), none, .ias 1 (.t p40) (.t p41)⟩, ⟨(some p43), none, .ld none (.t p42)⟩, ⟨(some p44), none, .mov (.t p4)⟩, ⟨(some p45), none, .mov (.t p10)⟩, ⟨(some p46), none, .call (.c (.func (.func 55) #[] #[])) [(.t p44), (.t p45)]⟩, ⟨(some p47), none, .build [(.int .i64 0), (.int .i64 0)] [(0, 1, (.t p43)), (1, 1, (.t p46))]⟩, ⟨(some p48), none, .call (.c (.func (.func 54) #[] #[])) [(.t p38), (.t p47)]⟩, ⟨none, none, .st 2 (.t p8) (.t p48)⟩] [(0, [10]), (2, [10]), (5, [10])])))) (.kill [p10, p38, p39, p40, p41, p42, p43, p44, p45, p46, p47, p48] (.reg [⟨(some p49), none, .bin .add (.t p34) (.c (.int .i64 1))⟩, ⟨(some p34), none, .mov (.t p49)⟩] [])))))))))) (.kill [p32, p33, p34, p35] (.reg [⟨(some p50), none, .mov (.t p6)⟩, ⟨(some p51), none, .ld (some 2) (.t p8)⟩, ⟨(some p52), none, .bslice 1 2 [(.int .i64 0), (.int .i64 0)] [(0, 2, (.t p51))]⟩, ⟨(some p53), none, .app 2 (.t p50) (.t p52)⟩, ⟨(some p6), none, .mov (.t p53)⟩] [])))))))) (.kill [p8, p50, p51, p52, p53] (.reg [⟨(some p54), none, .bin .add (.t p22) (.c (.int .i64 1))⟩, ⟨(some p22), none, .mov (.t p54)⟩] [])))))))))) (.kill [p1, p4, p21, p22, p23, p35] (.seq (.reg [⟨(some p55), none, .mov (.t p6)⟩, ⟨(some p56), none, .call (.c (.func (.func 56) #[] #[])) [(.t p55)]⟩, ⟨(some p2), none, .mov (.t p56)⟩, ⟨(some p3), none, .mov (.c (.int .i64 0))⟩] []) .ret)))))))))) }
def a19 : AFunc := { params := [p0, p1], init := i55, results := [.tmp p4, .tmp p5], body := (.seq (.reg [⟨(some p2), none, .box (.t p0)⟩, ⟨(some p4), none, .mov (.c (.slice none 0 0))⟩, ⟨(some p5), none, .mov (.c (.int .i64 0))⟩] []) (.kill [p0, p4, p5] (.seq (.reg [⟨(some p12), none, .ld (some 3) (.t p2)⟩, ⟨(some p13), none, .call (.c (.func (.func 52) #[] #[])) [(.t p12)]⟩, ⟨(some p11), none, .mov (.t p13)⟩, ⟨(some p14), none, .ext 0 (.t p11)⟩, ⟨(some p15), none, .ext 1 (.t p11)⟩, ⟨(some p6), none, .mov (.t p14)⟩, ⟨(some p7), none, .mov (.t p15)⟩] []) (.kill [p11, p12, p13, p14, p15] (.seq (.seq (.reg [⟨(some p16), none, .mov (.t p7)⟩, ⟨(some p17), none, .bin .neq (.t p16) (.c (.int .i64 0))⟩] []) (.kill [p16] (.cond (.t p17) (.kill [p17] (.seq (.reg [⟨(some p18), none, .mov (.t p7)⟩, ⟨(some p4), none, .mov (.c (.slice none 0 0))⟩, ⟨(some p5), none, .mov (.t p18)⟩] []) .ret)) .skip))) (.kill [p17] (.seq (.reg [⟨(some p8), none, .mov (.c (.int .i64 0))⟩] []) (.seq (.seq (.reg [⟨(some p19), none, .mov (.t p1)⟩, ⟨(some p20), none, .len 1 (.t p19)⟩, ⟨(some p21), none, .mov (.c (.int .i64 0))⟩] []) (.block 0 (.loop (.seq (.reg [⟨(some p22), none, .bin .lss (.t p21) (.t p20)⟩] []) (.seq (.cond (.t p22) .skip (.exit 0)) (.kill [p22] (.seq (.block 1 (.seq (.reg [⟨(some p23), none, .ias 1 (.t p19) (.t p21)⟩, ⟨(some p24), none, .ld none (.t p23)⟩, ⟨(some p10), none, .mov (.t p24)⟩] []) (.kill [p23, p24] (.seq (.seq (.reg [⟨(some p25), none, .mov (.t p10)⟩, ⟨(some p26), none, .bin .lss (.t p25) (.c (.int .i64 0))⟩, ⟨(some p27), none, .mov (.t p26)⟩, ⟨(some p28), (some (p27, false)), .mov (.t p10)⟩, ⟨(some p29), (some (p27, false)), .fad 2 (.t p2)⟩, ⟨(some p30), (some (p27, false)), .ld none (.t p29)⟩, ⟨(some p31), (some (p27, false)), .len 1 (.t p30)⟩, ⟨(some p32), (some (p27, false)), .bin .geq (.t p28) (.t p31)⟩, ⟨(some p33), none, .pick (.t p27) (.c (.bool true)) (.t p32)⟩] []) (.kill [p25, p26, p27, p28, p29, p30, p31, p32] (.cond (.t p33) (.kill [p33] (.seq (.reg [⟨(some p4), none, .mov (.c (.slice none 0 0))⟩, ⟨(some p5), none, .mov (.c (.int .i64 1))⟩] []) .ret)) .skip))) (.kill [p33] (.reg [⟨(some p34), none, .mov (.t p8)⟩, ⟨(some p35), none, .mov (.t p10)⟩, ⟨(some p36), none, .cvt .u64 (.t p35)⟩, ⟨(some p37), none, .bin .shl (.c (.int .i64 1)) (.t p36)⟩, ⟨(some p38), none, .bin .or (.t p34) (.t p37)⟩, ⟨(some p8), none, .mov (.t p38)⟩] [])))))) (.kill [p10, p34, p35, p36, p37, p38] (.reg [⟨(some p39), none, .bin .add (.t p21) (.c (.int .i64 1))⟩, ⟨(some p21), none, .mov (.t p39)⟩] []))))))))) (.kill [p19, p20, p21, p22] (.seq (.seq (.reg [⟨(some p40), none, .mov (.t p1)⟩, ⟨(some p41), none, .len 1 (.t p40)⟩, ⟨(some p42), none, .fad 2 (.t p2)⟩, ⟨(some p43), none, .ld none (.t p42)⟩, ⟨(some p44), none, .len 1 (.t p43)⟩, ⟨(some p45), none, .bin .neq (.t p41) (.t p44)⟩, ⟨(some p46), none, .mov (.t p45)⟩, ⟨(some p47), (some (p46, false)), .mov (.t p8)⟩, ⟨(some p48), (some (p46, false)), .mov (.t p6)⟩, ⟨(some p49), (some (p46, false)), .call (.c (.func (.func 57) #[] #[])) [(.t p48)]⟩, ⟨(some p50), (some (p46, false)), .bin .neq (.t p47) (.t p49)⟩, ⟨(some p51), none, .pick (.t p46) (.c (.bool true)) (.t p50)⟩] []) (.kill [p2, p8, p40, p41, p42, p43, p44, p45, p46, p47, p48, p49, p50] (.cond (.t p51) (.kill [p51] (.seq (.reg [⟨(some p4), none, .mov (.c (.slice none 0 0))⟩, ⟨(some p5), none, .mov (.c (.int .i64 1))⟩] []) .ret)) .skip))) (.kill [p51] (.seq (.reg [⟨(some p52), none, .mov (.t p6)⟩, ⟨(some p53), none, .mov (.t p1)⟩, ⟨(some p54), none, .call (.c (.func (.func 58) #[] #[])) [(.t p52), (.t p53)]⟩, ⟨(some p4), none, .mov (.t p54)⟩, ⟨(some p5), none, .mov (.c (.int .i64 0))⟩] []) .ret)))))))))))) }
def a20 : AFunc := { params := [p0, p1], init := i26, results := [.tmp p4], body := (.seq (.reg [⟨(some p4), none, .mov (.c (.bool false))⟩] []) (.kill [p4] (.seq (.seq (.reg [⟨(some p6), none, .mov (.t p0)⟩, ⟨(some p7), none, .len 1 (.t p6)⟩, ⟨(some p8), none, .mov (.t p1)⟩, ⟨(some p9), none, .len 1 (.t p8)⟩, ⟨(some p10), none, .bin .neq (.t p7) (.t p9)⟩] []) (.kill [p6, p7, p8, p9] (.cond (.t p10) (.kill [p10] (.seq (.reg [⟨(some p4), none, .mov (.c (.bool false))⟩] []) .ret)) .skip))) (.kill [p10] (.seq (.seq (.reg [⟨(some p5), none, .mov (.c (.int .i64 0))⟩] []) (.block 0 (.loop (.seq (.seq (.reg [⟨(some p11), none, .mov (.t p5)⟩, ⟨(some p12), none, .mov (.t p0)⟩, ⟨(some p13), none, .len 1 (.t p12)⟩, ⟨(some p14), none, .bin .lss (.t p11) (.t p13)⟩] []) (.kill [p11, p12, p13] (.cond (.t p14) .skip (.exit 0)))) (.kill [p14] (.seq (.block 1 (.seq (.reg [⟨(some p17), none, .mov (.t p0)⟩, ⟨(some p18), none, .mov (.t p5)⟩, ⟨(some p19), none, .ias 2 (.t p17) (.t p18)⟩, ⟨(some p20), none, .ld (some 2) (.t p19)⟩, ⟨(some p21), none, .mov (.t p1)⟩, ⟨(some p22), none, .mov (.t p5)⟩, ⟨(some p23), none, .ias 2 (.t p21) (.t p22)⟩, ⟨(some p24), none, .ld (some 2) (.t p23)⟩, ⟨(some p25), none, .eqs (.cells [.int, .int]) true (.t p20) (.t p24)⟩] []) (.kill [p17, p18, p19, p20, p21, p22, p23, p24] (.cond (.t p25) (.kill [p25] (.seq (.reg [⟨(some p4), none, .mov (.c (.bool false))⟩] []) .ret)) .skip)))) (.kill [p25] (.reg [⟨(some p15), none, .mov (.t p5)⟩, ⟨(some p16), none, .bin .add (.t p15) (.c (.int .i64 1))⟩, ⟨(some p5), none, .mov (.t p16)⟩] [])))))))) (.kill [p0, p1, p5, p14] (.seq (.reg [⟨(some p4), none, .mov (.c (.bool true))⟩] []) .ret))))))) }
def a22 : AFunc := { params := [p0, p1], init := i26, results := [.tmp p4], body := (.seq (.reg [⟨(some p4), none, .mov (.c (.bool false))⟩] []) (.kill [p4] (.seq (.seq (.reg [⟨(some p6), none, .mov (.t p0)⟩, ⟨(some p7), none, .len 1 (.t p6)⟩, ⟨(some p8), none, .mov (.t p1)⟩, ⟨(some p9), none, .len 1 (.t p8)⟩, ⟨(some p10), none, .bin .neq (.t p7) (.t p9)⟩] []) (.kill [p6, p7, p8, p9] (.cond (.t p10) (.kill [p10] (.seq (.reg [⟨(some p4), none, .mov (.c (.bool false))⟩] []) .ret)) .skip))) (.kill [p10] (.seq (.seq (.reg [⟨(some p5), none, .mov (.c (.int .i64 0))⟩] []) (.block 0 (.loop (.seq (.seq (.reg [⟨(some p11), none, .mov (.t p5)⟩, ⟨(some p12), none, .mov (.t p0)⟩, ⟨(some p13), none, .len 1 (.t p12)⟩, ⟨(some p14), none, .bin .lss (.t p11) (.t p13)⟩] []) (.kill [p11, p12, p13] (.cond (.t p14) .skip (.exit 0)))) (.kill [p14] (.seq (.block 1 (.seq (.reg [⟨(some p17), none, .mov (.t p0)⟩, ⟨(some p18), none, .mov (.t p5)⟩, ⟨(some p19), none, .ias 1 (.t p17) (.t p18)⟩, ⟨(some p20), none, .ld none (.t p19)⟩, ⟨(some p21), none, .mov (.t p1)⟩, ⟨(some p22), none, .mov (.t p5)⟩, ⟨(some p23), none, .ias 1 (.t p21) (.t p22)⟩, ⟨(some p24), none, .ld none (.t p23)⟩, ⟨(some p25), none, .bin .neq (.t p20) (.t p24)⟩] []) (.kill [p17, p18, p19, p20, p21, p22, p23, p24] (.cond (.t p25) (.kill [p25] (.seq (.reg [⟨(some p4), none, .mov (.c (.bool false))⟩] []) .ret)) .skip)))) (.kill [p25] (.reg [⟨(some p15), none, .mov (.t p5)⟩, ⟨(some p16), none, .bin .add (.t p15) (.c (.int .i64 1))⟩, ⟨(some p5), none, .mov (.t p16)⟩] [])))))))) (.kill [p0, p1, p5, p14] (.seq (.reg [⟨(some p4), none, .mov (.c (.bool true))⟩] []) .ret))))))) }
def a24 : AFunc := { params := [], init := i124, results := [.tmp p0], body := (.seq (.reg [⟨(some p0), none, .mov (.c (.bool false))⟩] []) (.kill [p0] (.seq (.reg [⟨(some p16), none, .bslice 3 1 [(.int .i64 0)] [(0, 1, (.c (.int .i64 (-1)))), (1, 1, (.c (.int .i64 0))), (2, 1, (.c (.int .i64 1)))]⟩, ⟨(some p17), none, .bslice 3 1 [(.int .i64 0)] [(0, 1, (.c (.int .i64 6))), (1, 1, (.c (.int .i64 4))), (2, 1, (.c (.int .i64 2)))]⟩, ⟨(some p18), none, .bslice 3 1 [(.int .i64 0)] [(0, 1, (.c (.int .i64 0))), (1, 1, (.c (.int .i64 1))), (2, 1, (.c (.int .i64 2)))]⟩, ⟨(some p19), none, .build [(.slice none 0 0), (.slice none 0 0), (.slice none 0 0)] [(0, 1, (.t p16)), (1, 1, (.t p17)), (2, 1, (.t p18))]⟩, ⟨(some p1), none, .zero [(.slice none 0 0), (.slice none 0 0), (.slice none 0 0)]⟩, ⟨none, none, .st 3 (.t p1) (.t p19)⟩] []) (.kill [p16, p17, p18, p19] (.seq (.reg [⟨(some p21), none, .ld (some 3) (.t p1)⟩, ⟨(some p22), none, .call (.c (.func (.func 18) #[] #[])) [(.t p21)]⟩, ⟨(some p20), none, .mov (.t p22)⟩, ⟨(some p23), none, .ext 0 (.t p20)⟩, ⟨(some p24), none, .ext 1 (.t p20)⟩, ⟨(some p2), none, .mov (.t p23)⟩, ⟨(some p3), none, .mov (.t p24)⟩] []) (.kill [p20, p21, p22, p23, p24] (.seq (.reg [⟨(some p26), none, .ld (some 3) (.t p1)⟩, ⟨(some p27), none, .call (.c (.func (.func 31) #[] #[])) [(.t p26), (.c (.int .i64 7))]⟩, ⟨(some p25), none, .mov (.t p27)⟩, ⟨(some p28), none, .ext 0 (.t p25)⟩, ⟨(some p29), none, .ext 1 (.t p25)⟩, ⟨(some p4), none, .mov (.t p28)⟩, ⟨(some p5), none, .mov (.t p29)⟩] []) (.kill [p25, p26, p27, p28, p29] (.seq (.reg [⟨(some p31), none, .ld (some 3) (.t p1)⟩, ⟨(some p32), none, .bslice 3 1 [(.int .i64 0)] [(0, 1, (.c (.int .i64 2))), (1, 1, (.c (.int .i64 0))), (2, 1, (.c (.int .i64 1)))]⟩, ⟨(some p33), none, .call (.c (.func (.func 19) #[] #[])) [(.t p31), (.t p32)]⟩, ⟨(some p30), none, .mov (.t p33)⟩, ⟨(some p34), none, .ext 0 (.t p30)⟩, ⟨(some p35), none, .ext 1 (.t p30)⟩, ⟨(some p6), none, .mov (.t p34)⟩, ⟨(some p7), none, .mov (.t p35)⟩] []) (.kill [p30, p31, p32, p33, p34, p35] (.seq (.reg [⟨(some p37), none, .ld (some 3) (.t p1)⟩, ⟨(some p38), none, .build [(.int .i64 0), (.int .i64 0)] [(0, 1, (.c (.int .i64 7))), (1, 1, (.c (.int .i64 1)))]⟩, ⟨(some p39), none, .build [(.int .i64 0), (.int .i64 0)] [(0, 1, (.c (.int .i64 4))), (1, 1, (.c (.int .i64 1)))]⟩, ⟨(some p40), none, .build [(.int .i64 0), (.int .i64 0)] [(0, 1, (.c (.int .i64 1))), (1, 1, (.c (.int .i64 1)))]⟩, ⟨(some p41), none, .bslice 3 2 [(.int .i64 0), (.int .i64 0)] [(0, 2, (.t p38)), (2, 2, (.t p39)), (4, 2, (.t p40))]⟩, ⟨(some p42), none, .call (.c (.func (.func 25) #[] #[])) [(.t p37), (.t p41)]⟩, ⟨(some p36), none, .mov (.t p42)⟩, ⟨(some p43), none, .ext 0 (.t p36)⟩, ⟨(some p44), none, .ext 1 (.t p36)⟩, ⟨(some p45), none, .ext 2 (.t p36)⟩, ⟨(some p8), none, .mov (.t p43)⟩, ⟨(some p9), none, .mov (.t p44)⟩, ⟨(some p10), none, .mov (.t p45)⟩] []) (.kill [p36, p37, p38, p39, p40, p41, p42, p43, p44, p45] (.seq (.reg [⟨(some p47), none, .ld (some 3) (.t p1)⟩, ⟨(some p48), none, .build [(.int .i64 0), (.int .i64 0)] [(0, 1, (.c (.int .i64 6))), (1, 1, (.c (.int .i64 1)))]⟩, ⟨(some p49), none, .build [(.int .i64 0), (.int .i64 0)] [(0, 1, (.c (.int .i64 4))), (1, 1, (.c (.int .i64 1)))]⟩, ⟨(some p50), none, .build [(.int .i64 0), (.int .i64 0)] [(0, 1, (.c (.int .i64 2))), (1, 1, (.c (.int .i64 1)))]⟩, ⟨(some p51), none, .bslice 3 2 [(.int .i64 0), (.int .i64 0)] [(0, 2, (.t p48)), (2, 2, (.t p49)), (4, 2, (.t p50))]⟩, ⟨(some p52), none, .call (.c (.func (.func 25) #[] #[])) [(.t p47), (.t p51)]⟩, ⟨(some p46), none, .mov (.t p52)⟩, ⟨(some p53), none, .ext 0 (.t p46)⟩, ⟨(some p54), none, .ext 1 (.t p46)⟩, ⟨(some p55), none, .ext 2 (.t p46)⟩, ⟨(some p11), none, .mov (.t p53)⟩, ⟨(some p12), none, .mov (.t p54)⟩, ⟨(some p13), none, .mov (.t p55)⟩] []) (.kill [p11, p46, p47, p48, p49, p50, p51, p52, p53, p54, p55] (.seq (.reg [⟨(some p57), none, .ld (some 3) (.t p1)⟩, ⟨(some p58), none, .call (.c (.func (.func 28) #[] #[])) [(.t p57), (.c (.int .i64 10))]⟩, ⟨(some p56), none, .mov (.t p58)⟩, ⟨(some p59), none, .ext 0 (.t p56)⟩, ⟨(some p60), none, .ext 1 (.t p56)⟩, ⟨(some p14), none, .mov (.t p59)⟩, ⟨(some p15), none, .mov (.t p60)⟩] []) (.kill [p1, p56, p57, p58, p59, p60] (.seq (.reg [⟨(some p61), none, .mov (.t p3)⟩, ⟨(some p62), none, .bin .eql (.t p61) (.c (.int .i64 0))⟩, ⟨(some p63), none, .mov (.t p62)⟩, ⟨(some p64), (some (p63, true)), .mov (.t p2)⟩, ⟨(some p65), (some (p63, true)), .build [(.int .i64 0), (.int .i64 0)] [(0, 1, (.c (.int .i64 2))), (1, 1, (.c (.int .i64 1)))]⟩, ⟨(some p66), (some (p63, true)), .build [(.int .i64 0), (.int .i64 0)] [(0, 1, (.c (.int .i64 4))), (1, 1, (.c (.int .i64 1)))]⟩, ⟨(some p67), (some (p63, true)), .build [(.int .i64 0), (.int .i64 0)] [(0, 1, (.c (.int .i64 6))), (1, 1, (.c (.int .i64 1)))]⟩, ⟨(some p68), (some (p63, true)), .bslice 3 2 [(.int .i64 0), (.int .i64 0)] [(0, 2, (.t p65)), (2, 2, (.t p66)), (4, 2, (.t p67))]⟩, ⟨(some p69), (some (p63, true)), .call (.c (.func (.func 20) #[] #[])) [(.t p64), (.t p68)]⟩, ⟨(some p70), none, .pick (.t p63) (.t p69) (.c (.bool false))⟩, ⟨(some p71), none, .mov (.t p70)⟩, ⟨(some p72), (some (p71, true)), .mov (.t p5)⟩, ⟨(some p73), (some (p71, true)), .bin .eql (.t p72) (.c (.int .i64 0))⟩, ⟨(some p74), none, .pick (.t p71) (.t p73) (.c (.bool false))⟩, ⟨(some p75), none, .mov (.t p74)⟩, ⟨(some p76), (some (p75, true)), .mov (.t p4)⟩, ⟨(some p77), (some (p75, true)), .bin .eql (.t p76) (.c (.int .i64 12))⟩, ⟨(some p78), none, .pick (.t p75) (.t p77) (.c (.bool false))⟩, ⟨(some p79), none, .mov (.t p78)⟩, ⟨(some p80), (some (p79, true)), .mov (.t p7)⟩, ⟨(some p81), (some (p79, true)), .bin .eql (.t p80) (.c (.int .i64 0))⟩, ⟨(some p82), none, .pick (.t p79) (.t p81) (.c (.bool false))⟩, ⟨(some p83), none, .mov (.t p82)⟩, ⟨(some p84), (some (p83, true)), .mov (.t p6)⟩, ⟨(some p85), (some (p83, true)), .bslice 3 1 [(.int .i64 0)] [(0, 1, (.c (.int .i64 0))), (1, 1, (.c (.int .i64 0))), (2, 1, (.c (.int .i64 12)))]⟩, ⟨(some p86), (some (p83, true)), .call (.c (.func (.func 22) #[] #[])) [(.t p84), (.t p85)]⟩, ⟨(some p87), none, .pick (.t p83) (.t p86) (.c (.bool false))⟩, ⟨(some p88), none, .mov (.t p87)⟩, ⟨(some p89), (some (p88, true)), .mov (.t p10)⟩, ⟨(some p90), (some (p88, true)), .bin .eql (.t p89) (.c (.int .i64 0))⟩, ⟨(some p91), none, .pick (.t p88) (.t p90) (.c (.bool false))⟩, ⟨(some p92), none, .mov (.t p91)⟩, ⟨(some p93), (some (p92, true)), .mov (.t p9)⟩, ⟨(some p94), (some (p92, true)), .un .not (.t p93)⟩, ⟨(some p95), none, .pick (.t p92) (.t p94) (.c (.bool false))⟩, ⟨(some p96), none, .mov (.t p95)⟩, ⟨(some p97), (some (p96, true)), .mov (.t p8)⟩, ⟨(some p98), (some (p96, true)), .bin .eql (.t p97) (.c (.int .i64 1))⟩, ⟨(some p99), none, .pick (.t p96) (.t p98) (.c (.bool false))⟩, ⟨(some p100), none, .mov (.t p99)⟩, ⟨(some p101), (some (p100, true)), .mov (.t p13)⟩, ⟨(some p102), (some (p100, true)), .bin .eql (.t p101) (.c (.int .i64 0))⟩, ⟨(some p103), none, .pick (.t p100) (.t p102) (.c (.bool false))⟩, ⟨(some p104), none, .mov (.t p103)⟩, ⟨(some p105), (some (p104, true)), .mov (.t p12)⟩, ⟨(some p106), none, .pick (.t p104) (.t p105) (.c (.bool false))⟩, ⟨(some p107), none, .mov (.t p106)⟩, ⟨(some p108), (some (p107, true)), .mov (.t p15)⟩, ⟨(some p109), (some (p107, true)), .bin .eql (.t p108) (.c (.int .i64 0))⟩, ⟨(some p110), none, .pick (.t p107) (.t p109) (.c (.bool false))⟩, ⟨(some p111), none, .mov (.t p110)⟩, ⟨(some p112), (some (p111, true)), .mov (.t p14)⟩, ⟨(some p113), (some (p111, true)), .build [(.int .i64 0), (.int .i64 0)] [(0, 1, (.c (.int .i64 0))), (1, 1, (.c (.int .i64 1)))]⟩, ⟨(some p114), (some (p111, true)), .build [(.int .i64 0), (.int .i64 0)] [(0, 1, (.c (.int .i64 0))), (1, 1, (.c (.int .i64 1)))]⟩, ⟨(some p115), (some (p111, true)), .build [(.int .i64 0), (.int .i64 0)] [(0, 1, (.c (.int .i64 1))), (1, 1, (.c (.int .i64 1)))]⟩, ⟨(some p116), (some (p111, true)), .bslice 3 2 [(.int .i64 0), (.int .i64 0)] [(0, 2, (.t p113)), (2, 2, (.t p114)), (4, 2, (.t p115))]⟩, ⟨(some p117), (some (p111, true)), .call (.c (.func (.func 20) #[] #[])) [(.t p112), (.t p116)]⟩, ⟨(some p118), none, .pick (.t p111) (.t p117) (.c (.bool false))⟩, ⟨(some p119), none, .mov (.t p118)⟩, ⟨(some p120), (some (p119, true)), .build [(.slice none 0 0), (.slice none 0 0), (.slice none 0 0)] []⟩, ⟨(some p121), (some (p119, true)), .call (.c (.func (.func 50) #[] #[])) [(.t p120)]⟩, ⟨(some p122), (some (p119, true)), .bin .eql (.t p121) (.c (.int .i64 100))⟩, ⟨(some p123), none, .pick (.t p119) (.t p122) (.c (.bool false))⟩, ⟨(some p0), none, .mov (.t p123)⟩] []) .ret))))))))))))))))) }
def a25 : AFunc := { params := [p0, p1], init := i90, results := [.tmp p4, .tmp p5, .tmp p6], body := (.seq (.reg [⟨(some p2), none, .box (.t p0)⟩, ⟨(some p4), none, .mov (.c (.int .i64 0))⟩, ⟨(some p5), none, .mov (.c (.bool false))⟩, ⟨(some p6), none, .mov (.c (.int .i64 0))⟩] []) (.kill [p0, p4, p5, p6] (.kill [] (.seq (.reg [⟨(some p15), none, .ld (some 3) (.t p2)⟩, ⟨(some p16), none, .call (.c (.func (.func 52) #[] #[])) [(.t p15)]⟩, ⟨(some p14), none, .mov (.t p16)⟩, ⟨(some p17), none, .ext 0 (.t p14)⟩, ⟨(some p18), none, .ext 1 (.t p14)⟩, ⟨(some p7), none, .mov (.t p17)⟩, ⟨(some p8), none, .mov (.t p18)⟩] []) (.kill [p14, p15, p16, p17, p18] (.seq (.seq (.reg [⟨(some p19), none, .mov (.t p8)⟩, ⟨(some p20), none, .bin .neq (.t p19) (.c (.int .i64 0))⟩] []) (.kill [p19] (.cond (.t p20) (.kill [p20] (.seq (.reg [⟨(some p21), none, .mov (.t p8)⟩, ⟨(some p4), none, .mov (.c (.int .i64 0))⟩, ⟨(some p5), none, .mov (.c (.bool false))⟩, ⟨(some p6), none, .mov (.t p21)⟩] []) .ret)) .skip))) (.kill [p20] (.seq (.seq (.reg [⟨(some p22), none, .mov (.t p1)⟩, ⟨(some p23), none, .len 1 (.t p22)⟩, ⟨(some p24), none, .fad 2 (.t p2)⟩, ⟨(some p25), none, .ld none (.t p24)⟩, ⟨(some p26), none, .len 1 (.t p25)⟩, ⟨(some p27), none, .bin .neq (.t p23) (.t p26)⟩] []) (.kill [p2, p22, p23, p24, p25, p26] (.cond (.t p27) (.kill [p27] (.seq (.reg [⟨(some p4), none, .mov (.c (.int .i64 0))⟩, ⟨(some p5), none, .mov (.c (.bool false))⟩, ⟨(some p6), none, .mov (.c (.int .i64 1))⟩] []) .ret)) .skip))) (.kill [p27] (.seq (.seq (.reg [⟨(some p28), none, .mov (.t p1)⟩, ⟨(some p29), none, .len 1 (.t p28)⟩, ⟨(some p30), none, .mov (.c (.int .i64 0))⟩] []) (.block 0 (.loop (.seq (.reg [⟨(some p31), none, .bin .lss (.t p30) (.t p29)⟩] []) (.seq (.cond (.t p31) .skip (.exit 0)) (.kill [p31] (.seq (.block 1 (.seq (.reg [⟨(some p32), none, .ias 2 (.t p28) (.t p30)⟩, ⟨(some p33), none, .ld (some 2) (.t p32)⟩, ⟨(some p10), none, .zero [(.int .i64 0), (.int .i64 0)]⟩, ⟨none, none, .st 2 (.t p10) (.t p33)⟩] []) (.kill [p32, p33] (.seq (.reg [⟨(some p34), none, .iad 2 1 (.t p10) (.c (.int .i64 0))⟩, ⟨(some p35), none, .ld none (.t p34)⟩, ⟨(some p36), none, .bin .lss (.t p35) (.c (.int .i64 (-1000000000)))⟩, ⟨(some p37), none, .mov (.t p36)⟩, ⟨(some p38), (some (p37, false)), .iad 2 1 (.t p10) (.c (.int .i64 0))⟩, ⟨(some p39), (some (p37, false)), .ld none (.t p38)⟩, ⟨(some p40), (some (p37, false)), .bin .gtr (.t p39) (.c (.int .i64 1000000000))⟩, ⟨(some p41), none, .pick (.t p37) (.c (.bool true)) (.t p40)⟩, ⟨(some p42), none, .mov (.t p41)⟩, ⟨(some p43), (some (p42, false)), .iad 2 1 (.t p10) (.c (.int .i64 1))⟩, ⟨(some p44), (some (p42, false)), .ld none (.t p43)⟩, ⟨(some p45), (some (p42, false)), .bin .lss (.t p44) (.c (.int .i64 1))⟩, ⟨(some p46), none, .pick (.t p42) (.c (.bool true)) (.t p45)⟩, ⟨(some p47), none, .mov (.t p46)⟩, ⟨(some p48), (some (p47, false)), .iad 2 1 (.t p10) (.c (.int .i64 1))⟩, ⟨(some p49), (some (p47, false)), .ld none (.t p48)⟩, ⟨(some p50), (some (p47, false)), .bin .rem (.c (.int .i64 5040)) (.t p49)⟩, ⟨(some p51), (some (p47, false)), .bin .neq (.t p50) (.c (.int .i64 0))⟩, ⟨(some p52), none, .pick (.t p47) (.c (.bool true)) (.t p51)⟩, ⟨(some p53), none, .mov (.t p52)⟩, ⟨(some p54), (some (p53, false)), .iad 2 1 (.t p10) (.c (.int .i64 0))⟩, ⟨(some p55), (some (p53, false)), .ld none (.t p54)⟩, ⟨(some p56), (some (p53, false)), .iad 2 1 (.t p10) (.c (.int .i64 1))⟩, ⟨(some p57), (some (p53, false)), .ld none (.t p56)⟩, ⟨(some p58), (some (p53, false)), .call (.c (.func (.func 61) #[] #[])) [(.t p55), (.t p57)]⟩, ⟨(some p59), (some (p53, false)), .bin .neq (.t p58) (.c (.int .i64 1))⟩, ⟨(some p60), none, .pick (.t p53) (.c (.bool true)) (.t p59)⟩] []) (.kill [p10, p34, p35, p36, p37, p38, p39, p40, p41, p42, p43, p44, p45, p46, p47, p48, p49, p50, p51, p52, p53, p54, p55, p56, p57, p58, p59] (.cond (.t p60) (.kill [p60] (.seq (.reg [⟨(some p4), none, .mov (.c (.int .i64 0))⟩, ⟨(some p5), none, .mov (.c (.bool false))⟩, ⟨(some p6), none, .mov (.c (.int .i64 1))⟩] []) .ret)) .skip)))))) (.kill [p60] (.reg [⟨(some p61), none, .bin .add (.t p30) (.c (.int .i64 1))⟩, ⟨(some p30), none, .mov (.t p61)⟩] []))))))))) (.kill [p28, p29, p30, p31] (.seq (.reg [⟨(some p11), none, .mov (.c (.int .i64 0))⟩] []) (.seq .skip (.seq (.seq (.reg [⟨(some p62), none, .mov (.t p7)⟩, ⟨(some p63), none, .call (.c (.func (.func 57) #[] #[])) [(.t p62)]⟩, ⟨(some p64), none, .bin .add (.t p63) (.c (.int .i64 1))⟩, ⟨(some p65), none, .mov (.c (.int .i64 0))⟩] []) (.kill [p62, p63] (.block 2 (.loop (.seq (.reg [⟨(some p66), none, .bin .lss (.t p65) (.t p64)⟩] []) (.seq (.cond (.t p66) .skip (.exit 2)) (.kill [p66] (.seq (.block 3 (.seq (.reg [⟨(some p67), none, .mov (.t p65)⟩, ⟨(some p12), none, .mov (.t p67)⟩] []) (.kill [p67] (.seq (.reg [⟨(some p68), none, .mov (.t p7)⟩, ⟨(some p69), none, .mov (.t p1)⟩, ⟨(some p70), none, .mov (.t p12)⟩, ⟨(some p71), none, .call (.c (.func (.func 62) #[] #[])) [(.t p68), (.t p69), (.t p70)]⟩, ⟨(some p72), none, .bin .gtr (.t p71) (.c (.int .i64 0))⟩] []) (.kill [p68, p69, p70, p71] (.cond (.t p72) (.kill [p72] (.seq (.reg [⟨(some p73), none, .mov (.t p12)⟩, ⟨(some p11), none, .mov (.t p73)⟩] []) (.kill [p12, p73] (.exit 2)))) .skip)))))) (.kill [p72] (.reg [⟨(some p74), none, .bin .add (.t p65) (.c (.int .i64 1))⟩, ⟨(some p65), none, .mov (.t p74)⟩] [])))))))))) (.kill [p64, p65, p66] (.seq (.seq (.reg [⟨(some p75), none, .mov (.t p11)⟩, ⟨(some p76), none, .bin .neq (.t p75) (.c (.int .i64 0))⟩] []) (.kill [p75] (.cond (.t p76) (.kill [p76] (.seq (.reg [⟨(some p77), none, .mov (.t p11)⟩, ⟨(some p4), none, .mov (.t p77)⟩, ⟨(some p5), none, .mov (.c (.bool false))⟩, ⟨(some p6), none, .mov (.c (.int .i64 0))⟩] []) .ret)) .skip))) (.kill [p76] (.seq (.reg [⟨(some p78), none, .mov (.t p1)⟩, ⟨(some p79), none, .call (.c (.func (.func 63) #[] #[])) [(.t p78), (.c (.func (.func 64) #[] #[]))]⟩, ⟨(some p13), none, .mov (.t p79)⟩] []) (.kill [p78, p79] (.seq (.reg [⟨(some p80), none, .mov (.t p13)⟩, ⟨(some p81), none, .un .not (.t p80)⟩, ⟨(some p82), none, .mov (.t p81)⟩, ⟨(some p83), (some (p82, true)), .mov (.t p7)⟩, ⟨(some p84), (some (p82, true)), .mov (.t p1)⟩, ⟨(some p85), (some (p82, true)), .mov (.t p7)⟩, ⟨(some p86), (some (p82, true)), .call (.c (.func (.func 57) #[] #[])) [(.t p85)]⟩, ⟨(some p87), (some (p82, true)), .call (.c (.func (.func 62) #[] #[])) [(.t p83), (.t p84), (.t p86)]⟩, ⟨(some p88), (some (p82, true)), .bin .eql (.t p87) (.c (.int .i64 0))⟩, ⟨(some p89), none, .pick (.t p82) (.t p88) (.c (.bool false))⟩, ⟨(some p4), none, .mov (.c (.int .i64 0))⟩, ⟨(some p5), none, .mov (.t p89)⟩, ⟨(some p6), none, .mov (.c (.int .i64 0))⟩] []) .ret)))))))))))))))))))) }
def a28 : AFunc := { params := [p0, p1], init := i25, results := [.tmp p4, .tmp p5], body := (.seq (.reg [⟨(some p2), none, .box (.t p0)⟩, ⟨(some p3), none, .box (.t p1)⟩, ⟨(some p4), none, .mov (.c (.slice none 0 0))⟩, ⟨(some p5), none, .mov (.c (.int .i64 0))⟩] []) (.kill [p0, p1, p4, p5] (.seq (.reg [⟨(some p9), none, .ld (some 3) (.t p2)⟩, ⟨(some p10), none, .call (.c (.func (.func 52) #[] #[])) [(.t p9)]⟩, ⟨(some p8), none, .mov (.t p10)⟩, ⟨(some p11), none, .ext 0 (.t p8)⟩, ⟨(some p12), none, .ext 1 (.t p8)⟩, ⟨(some p6), none, .zero [(.pointer none)]⟩, ⟨none, none, .st 1 (.t p6) (.t p11)⟩, ⟨(some p7), none, .mov (.t p12)⟩] []) (.kill [p2, p8, p9, p10, p11, p12] (.seq (.seq (.reg [⟨(some p13), none, .mov (.t p7)⟩, ⟨(some p14), none, .bin .neq (.t p13) (.c (.int .i64 0))⟩] []) (.kill [p13] (.cond (.t p14) (.kill [p14] (.seq (.reg [⟨(some p15), none, .mov (.t p7)⟩, ⟨(some p4), none, .mov (.c (.slice none 0 0))⟩, ⟨(some p5), none, .mov (.t p15)⟩] []) .ret)) .skip))) (.kill [p14] (.seq (.seq (.reg [⟨(some p16), none, .ld none (.t p3)⟩, ⟨(some p17), none, .bin .lss (.t p16) (.c (.int .i64 0))⟩, ⟨(some p18), none, .mov (.t p17)⟩, ⟨(some p19), (some (p18, false)), .ld none (.t p3)⟩, ⟨(some p20), (some (p18, false)), .bin .gtr (.t p19) (.c (.int .i64 10000))⟩, ⟨(some p21), none, .pick (.t p18) (.c (.bool true)) (.t p20)⟩] []) (.kill [p16, p17, p18, p19, p20] (.cond (.t p21) (.kill [p21] (.seq (.reg [⟨(some p4), none, .mov (.c (.slice none 0 0))⟩, ⟨(some p5), none, .mov (.c (.int .i64 1))⟩] []) .ret)) .skip))) (.kill [p21] (.seq (.reg [⟨(some p22), none, .ld none (.t p6)⟩, ⟨(some p23), none, .clos (.func 67) [] [(.t p6), (.t p3)]⟩, ⟨(some p24), none, .call (.c (.func (.func 66) #[] #[])) [(.t p22), (.t p23)]⟩, ⟨(some p4), none, .mov (.t p24)⟩, ⟨(some p5), none, .mov (.c (.int .i64 0))⟩] []) .ret))))))))) }
def a31 : AFunc := { params := [p0, p1], init := i20, results := [.tmp p4, .tmp p5], body := (.seq (.reg [⟨(some p2), none, .box (.t p0)⟩, ⟨(some p4), none, .mov (.c (.int .i64 0))⟩, ⟨(some p5), none, .mov (.c (.int .i64 0))⟩] []) (.kill [p0, p4, p5] (.seq (.reg [⟨(some p9), none, .ld (some 3) (.t p2)⟩, ⟨(some p10), none, .mov (.t p1)⟩, ⟨(some p11), none, .call (.c (.func (.func 70) #[] #[])) [(.t p9), (.t p10)]⟩, ⟨(some p8), none, .mov (.t p11)⟩, ⟨(some p12), none, .ext 0 (.t p8)⟩, ⟨(some p13), none, .ext 1 (.t p8)⟩, ⟨(some p6), none, .mov (.t p12)⟩, ⟨(some p7), none, .mov (.t p13)⟩] []) (.kill [p2, p8, p9, p10, p11, p12, p13] (.seq (.seq (.reg [⟨(some p14), none, .mov (.t p7)⟩, ⟨(some p15), none, .bin .neq (.t p14) (.c (.int .i64 0))⟩] []) (.kill [p14] (.cond (.t p15) (.kill [p15] (.seq (.reg [⟨(some p16), none, .mov (.t p7)⟩, ⟨(some p4), none, .mov (.c (.int .i64 0))⟩, ⟨(some p5), none, .mov (.t p16)⟩] []) .ret)) .skip))) (.kill [p15] (.seq (.reg [⟨(some p17), none, .mov (.t p6)⟩, ⟨(some p18), none, .mov (.t p1)⟩, ⟨(some p19), none, .call (.c (.func (.func 68) #[] #[])) [(.t p17), (.t p18)]⟩, ⟨(some p4), none, .mov (.t p19)⟩, ⟨(some p5), none, .mov (.c (.int .i64 0))⟩] []) .ret))))))) }
def a35 : AFunc := { params := [p0], init := i18, results := [.tmp p2, .tmp p3], body := (.seq (.reg [⟨(some p1), none, .box (.t p0)⟩, ⟨(some p2), none, .mov (.c (.slice none 0 0))⟩, ⟨(some p3), none, .mov (.c (.int .i64 0))⟩] []) (.kill [p0, p2, p3] (.seq (.reg [⟨(some p7), none, .ld (some 3) (.t p1)⟩, ⟨(some p8), none, .call (.c (.func (.func 52) #[] #[])) [(.t p7)]⟩, ⟨(some p6), none, .mov (.t p8)⟩, ⟨(some p9), none, .ext 0 (.t p6)⟩, ⟨(some p10), none, .ext 1 (.t p6)⟩, ⟨(some p4), none, .mov (.t p9)⟩, ⟨(some p5), none, .mov (.t p10)⟩] []) (.kill [p1, p6, p7, p8, p9, p10] (.seq (.seq (.reg [⟨(some p11), none, .mov (.t p5)⟩, ⟨(some p12), none, .bin .neq (.t p11) (.c (.int .i64 0))⟩] []) (.kill [p11] (.cond (.t p12) (.kill [p12] (.seq (.reg [⟨(some p13), none, .mov (.t p5)⟩, ⟨(some p2), none, .mov (.c (.slice none 0 0))⟩, ⟨(some p3), none, .mov (.t p13)⟩] []) .ret)) .skip))) (.kill [p12] (.seq (.reg [⟨(some p14), none, .mov (.t p4)⟩, ⟨(some p15), none, .mov (.t p4)⟩, ⟨(some p16), none, .clos (.func 58) [(.t p15)] []⟩, ⟨(some p17), none, .call (.c (.func (.func 66) #[] #[])) [(.t p14), (.t p16)]⟩, ⟨(some p2), none, .mov (.t p17)⟩, ⟨(some p3), none, .mov (.c (.int .i64 0))⟩] []) .ret))))))) }
def a37 : AFunc := { params := [p0, p1], init := i42, results := [.tmp p4, .tmp p5], body := (.seq (.reg [⟨(some p2), none, .box (.t p0)⟩, ⟨(some p4), none, .mov (.c (.int .i64 0))⟩, ⟨(some p5), none, .mov (.c (.int .i64 0))⟩] []) (.kill [p0, p4, p5] (.seq (.reg [⟨(some p12), none, .ld (some 3) (.t p2)⟩, ⟨(some p13), none, .mov (.t p1)⟩, ⟨(some p14), none, .call (.c (.func (.func 70) #[] #[])) [(.t p12), (.t p13)]⟩, ⟨(some p11), none, .mov (.t p14)⟩, ⟨(some p15), none, .ext 0 (.t p11)⟩, ⟨(some p16), none, .ext 1 (.t p11)⟩, ⟨(some p6), none, .mov (.t p15)⟩, ⟨(some p7), none, .mov (.t p16)⟩] []) (.kill [p2, p11, p12, p13, p14, p15, p16] (.seq (.seq (.reg [⟨(some p17), none, .mov (.t p7)⟩, ⟨(some p18), none, .bin .neq (.t p17) (.c (.int .i64 0))⟩] []) (.kill [p17] (.cond (.t p18) (.kill [p18] (.seq (.reg [⟨(some p19), none, .mov (.t p7)⟩, ⟨(some p4), none, .mov (.c (.int .i64 0))⟩, ⟨(some p5), none, .mov (.t p19)⟩] []) .ret)) .skip))) (.kill [p18] (.seq (.reg [⟨(some p8), none, .mov (.c (.slice none 0 0))⟩] []) (.seq (.seq (.reg [⟨(some p20), none, .mov (.t p1)⟩, ⟨(some p21), none, .call (.c (.func (.func 53) #[] #[])) [(.t p20)]⟩, ⟨(some p22), none, .len 1 (.t p21)⟩, ⟨(some p23), none, .mov (.c (.int .i64 0))⟩] []) (.kill [p20] (.block 0 (.loop (.seq (.reg [⟨(some p24), none, .bin .lss (.t p23) (.t p22)⟩] []) (.seq (.cond (.t p24) .skip (.exit 0)) (.kill [p24] (.seq (.block 1 (.seq (.reg [⟨(some p25), none, .ias 1 (.t p21) (.t p23)⟩, ⟨(some p26), none, .ld none (.t p25)⟩, ⟨(some p10), none, .mov (.t p26)⟩] []) (.kill [p25, p26] (.reg [⟨(some p27), none, .mov (.t p8)⟩, ⟨(some p28), none, .mov (.t p6)⟩, ⟨(some p29), none, .mov (.t p10)⟩, ⟨(some p30), none, .cvt .u64 (.t p29)⟩, ⟨(some p31), none, .bin .shl (.c (.int .i64 1)) (.t p30)⟩, ⟨(some p32), none, .call (.c (.func (.func 68) #[] #[])) [(.t p28), (.t p31)]⟩, ⟨(some p33), none, .bslice 1 1 [(.int .i64 0)] [(0, 1, (.t p32))]⟩, ⟨(some p34), none, .app 1 (.t p27) (.t p33)⟩, ⟨(some p8), none, .mov (.t p34)⟩] [])))) (.kill [p10, p27, p28, p29, p30, p31, p32, p33, p34] (.reg [⟨(some p35), none, .bin .add (.t p23) (.c (.int .i64 1))⟩, ⟨(some p23), none, .mov (.t p35)⟩] [])))))))))) (.kill [p21, p22, p23, p24] (.seq (.reg [⟨(some p36), none, .mov (.t p8)⟩, ⟨(some p37), none, .call (.c (.func (.func 71) #[] #[])) [(.t p36)]⟩, ⟨(some p38), none, .mov (.t p6)⟩, ⟨(some p39), none, .mov (.t p1)⟩, ⟨(some p40), none, .call (.c (.func (.func 68) #[] #[])) [(.t p38), (.t p39)]⟩, ⟨(some p41), none, .bin .sub (.t p37) (.t p40)⟩, ⟨(some p4), none, .mov (.t p41)⟩, ⟨(some p5), none, .mov (.c (.int .i64 0))⟩] []) .ret)))))))))) }
def a38 : AFunc := { params := [p0], init := i30, results := [.tmp p2, .tmp p3], body := (.seq (.reg [⟨(some p1), none, .box (.t p0)⟩, ⟨(some p2), none, .mov (.c (.slice none 0 0))⟩, ⟨(some p3), none, .mov (.c (.int .i64 0))⟩] []) (.kill [p0, p2, p3] (.seq (.reg [⟨(some p9), none, .ld (some 3) (.t p1)⟩, ⟨(some p10), none, .call (.c (.func (.func 52) #[] #[])) [(.t p9)]⟩, ⟨(some p8), none, .mov (.t p10)⟩, ⟨(some p11), none, .ext 0 (.t p8)⟩, ⟨(some p12), none, .ext 1 (.t p8)⟩, ⟨(some p4), none, .mov (.t p11)⟩, ⟨(some p5), none, .mov (.t p12)⟩] []) (.kill [p8, p9, p10, p11, p12] (.seq (.seq (.reg [⟨(some p13), none, .mov (.t p5)⟩, ⟨(some p14), none, .bin .neq (.t p13) (.c (.int .i64 0))⟩] []) (.kill [p13] (.cond (.t p14) (.kill [p14] (.seq (.reg [⟨(some p15), none, .mov (.t p5)⟩, ⟨(some p2), none, .mov (.c (.slice none 0 0))⟩, ⟨(some p3), none, .mov (.t p15)⟩] []) .ret)) .skip))) (.kill [p14] (.seq (.reg [⟨(some p6), none, .mov (.c (.slice none 0 0))⟩] []) (.seq (.seq (.reg [⟨(some p16), none, .fad 0 (.t p1)⟩, ⟨(some p17), none, .ld none (.t p16)⟩, ⟨(some p18), none, .len 1 (.t p17)⟩, ⟨(some p19), none, .mov (.c (.int .i64 0))⟩] []) (.kill [p1, p16, p17] (.block 0 (.loop (.seq (.reg [⟨(some p20), none, .bin .lss (.t p19) (.t p18)⟩] []) (.seq (.cond (.t p20) .skip (.exit 0)) (.kill [p20] (.seq (.block 1 (.seq (.reg [⟨(some p21), none, .mov (.t p19)⟩, ⟨(some p7), none, .mov (.t p21)⟩] []) (.kill [p21] (.reg [⟨(some p22), none, .mov (.t p6)⟩, ⟨(some p23), none, .mov (.t p4)⟩, ⟨(some p24), none, .mov (.t p7)⟩, ⟨(some p25), none, .call (.c (.func (.func 55) #[] #[])) [(.t p23), (.t p24)]⟩, ⟨(some p26), none, .bslice 1 1 [(.int .i64 0)] [(0, 1, (.t p25))]⟩, ⟨(some p27), none, .app 1 (.t p22) (.t p26)⟩, ⟨(some p6), none, .mov (.t p27)⟩] [])))) (.kill [p7, p22, p23, p24, p25, p26, p27] (.reg [⟨(some p28), none, .bin .add (.t p19) (.c (.int .i64 1))⟩, ⟨(some p19), none, .mov (.t p28)⟩] [])))))))))) (.kill [p4, p18, p19, p20] (.seq (.reg [⟨(some p29), none, .mov (.t p6)⟩, ⟨(some p2), none, .mov (.t p29)⟩, ⟨(some p3), none, .mov (.c (.int .i64 0))⟩] []) .ret)))))))))) }
def a41 : AFunc := { params := [p0, p1], init := i24, results := [.tmp p4, .tmp p5], body := (.seq (.reg [⟨(some p2), none, .box (.t p0)⟩, ⟨(some p4), none, .mov (.c (.slice none 0 0))⟩, ⟨(some p5), none, .mov (.c (.int .i64 0))⟩] []) (.kill [p0, p4, p5] (.seq (.reg [⟨(some p9), none, .ld (some 3) (.t p2)⟩, ⟨(some p10), none, .mov (.t p1)⟩, ⟨(some p11), none, .call (.c (.func (.func 72) #[] #[])) [(.t p9), (.t p10)]⟩, ⟨(some p8), none, .mov (.t p11)⟩, ⟨(some p12), none, .ext 0 (.t p8)⟩, ⟨(some p13), none, .ext 1 (.t p8)⟩, ⟨(some p6), none, .mov (.t p12)⟩, ⟨(some p7), none, .mov (.t p13)⟩] []) (.kill [p2, p8, p9, p10, p11, p12, p13] (.seq (.seq (.reg [⟨(some p14), none, .mov (.t p7)⟩, ⟨(some p15), none, .bin .neq (.t p14) (.c (.int .i64 0))⟩] []) (.kill [p14] (.cond (.t p15) (.kill [p15] (.seq (.reg [⟨(some p16), none, .mov (.t p7)⟩, ⟨(some p4), none, .mov (.c (.slice none 0 0))⟩, ⟨(some p5), none, .mov (.t p16)⟩] []) .ret)) .skip))) (.kill [p15] (.seq (.reg [⟨(some p17), none, .mov (.t p6)⟩, ⟨(some p18), none, .mov (.t p1)⟩, ⟨(some p19), none, .nilchk (.t p17)⟩, ⟨(some p20), none, .fad 3 (.t p19)⟩, ⟨(some p21), none, .iad 7 1 (.t p20) (.t p18)⟩, ⟨(some p22), none, .ld none (.t p21)⟩, ⟨(some p23), none, .call (.c (.func (.func 53) #[] #[])) [(.t p22)]⟩, ⟨(some p4), none, .mov (.t p23)⟩, ⟨(some p5), none, .mov (.c (.int .i64 0))⟩] []) .ret))))))) }
def a43 : AFunc := { params := [p0, p1], init := i14, results := [.tmp p4], body := (.seq (.reg [⟨(some p4), none, .mov (.c (.slice none 0 0))⟩] []) (.kill [p4] (.seq (.reg [⟨(some p5), none, .mov (.c (.slice none 0 0))⟩] []) (.seq (.reg [⟨(some p6), none, .mov (.t p5)⟩, ⟨(some p7), none, .mov (.t p0)⟩, ⟨(some p8), none, .mov (.t p0)⟩, ⟨(some p9), none, .len 1 (.t p8)⟩, ⟨(some p10), none, .mov (.t p1)⟩, ⟨(some p11), none, .min (.t p9) [(.t p10)]⟩, ⟨(some p12), none, .slsl 1 (.t p7) none (some (.t p11)) none⟩, ⟨(some p13), none, .app 1 (.t p6) (.t p12)⟩, ⟨(some p4), none, .mov (.t p13)⟩] []) .ret)))) }
def a44 : AFunc := { params := [p0, p1], init := i32, results := [.cell (some 3) p4, .tmp p5], body := (.seq (.reg [⟨(some p2), none, .box (.t p0)⟩, ⟨(some p4), none, .zero [(.slice none 0 0), (.slice none 0 0), (.slice none 0 0)]⟩, ⟨(some p5), none, .mov (.c (.int .i64 0))⟩] []) (.kill [p0, p5] (.seq (.seq (.reg [⟨(some p9), none, .ld (some 3) (.t p2)⟩, ⟨(some p10), none, .mov (.t p1)⟩, ⟨(some p11), none, .call (.c (.func (.func 72) #[] #[])) [(.t p9), (.t p10)]⟩, ⟨(some p8), none, .mov (.t p11)⟩, ⟨(some p12), none, .ext 0 (.t p8)⟩, ⟨(some p13), none, .ext 1 (.t p8)⟩, ⟨(some p6), none, .mov (.t p12)⟩, ⟨(some p7), none, .mov (.t p13)⟩] []) (.kill [p6, p8, p9, p10, p11, p12, p13] (.seq (.reg [⟨(some p14), none, .mov (.t p7)⟩, ⟨(some p15), none, .bin .neq (.t p14) (.c (.int .i64 0))⟩] []) (.kill [p14] (.cond (.t p15) (.kill [p15] (.seq (.reg [⟨(some p16), none, .build [(.slice none 0 0), (.slice none 0 0), (.slice none 0 0)] []⟩, ⟨(some p17), none, .mov (.t p7)⟩, ⟨none, none, .st 3 (.t p4) (.t p16)⟩, ⟨(some p5), none, .mov (.t p17)⟩] []) .ret)) .skip))))) (.kill [p15] (.seq (.reg [⟨(some p18), none, .fad 0 (.t p2)⟩, ⟨(some p19), none, .ld none (.t p18)⟩, ⟨(some p20), none, .call (.c (.func (.func 73) #[] #[])) [(.t p19)]⟩, ⟨(some p21), none, .fad 1 (.t p2)⟩, ⟨(some p22), none, .ld none (.t p21)⟩, ⟨(some p23), none, .call (.c (.func (.func 73) #[] #[])) [(.t p22)]⟩, ⟨(some p24), none, .fad 2 (.t p2)⟩, ⟨(some p25), none, .ld none (.t p24)⟩, ⟨(some p26), none, .call (.c (.func (.func 73) #[] #[])) [(.t p25)]⟩, ⟨(some p27), none, .mov (.t p1)⟩, ⟨(some p28), none, .mov (.t p1)⟩, ⟨(some p29), none, .bin .add (.t p28) (.c (.int .i64 1))⟩, ⟨(some p30), none, .call (.c (.func (.func 74) #[] #[])) [(.t p26), (.t p27), (.t p29)]⟩, ⟨(some p31), none, .build [(.slice none 0 0), (.slice none 0 0), (.slice none 0 0)] [(0, 1, (.t p20)), (1, 1, (.t p23)), (2, 1, (.t p30))]⟩, ⟨none, none, .st 3 (.t p4) (.t p31)⟩, ⟨(some p5), none, .mov (.c (.int .i64 0))⟩] [(4, [2]), (7, [2, 5])]) .ret))))) }
def a45 : AFunc := { params := [p0, p1], init := i32, results := [.cell (some 2) p4, .tmp p5], body := (.seq (.reg [⟨(some p2), none, .box (.t p0)⟩, ⟨(some p4), none, .zero [(.int .i64 0), (.int .i64 0)]⟩, ⟨(some p5), none, .mov (.c (.int .i64 0))⟩] []) (.kill [p0, p5] (.seq (.reg [⟨(some p9), none, .ld (some 3) (.t p2)⟩, ⟨(some p10), none, .mov (.t p1)⟩, ⟨(some p11), none, .call (.c (.func (.func 72) #[] #[])) [(.t p9), (.t p10)]⟩, ⟨(some p8), none, .mov (.t p11)⟩, ⟨(some p12), none, .ext 0 (.t p8)⟩, ⟨(some p13), none, .ext 1 (.t p8)⟩, ⟨(some p6), none, .mov (.t p12)⟩, ⟨(some p7), none, .mov (.t p13)⟩] []) (.kill [p2, p8, p9, p10, p11, p12, p13] (.seq (.seq (.reg [⟨(some p14), none, .mov (.t p7)⟩, ⟨(some p15), none, .bin .neq (.t p14) (.c (.int .i64 0))⟩] []) (.kill [p14] (.cond (.t p15) (.kill [p15] (.seq (.reg [⟨(some p16), none, .build [(.int .i64 0), (.int .i64 0)] []⟩, ⟨(some p17), none, .mov (.t p7)⟩, ⟨none, none, .st 2 (.t p4) (.t p16)⟩, ⟨(some p5), none, .mov (.t p17)⟩] []) .ret)) .skip))) (.kill [p15] (.seq (.reg [⟨(some p18), none, .mov (.t p6)⟩, ⟨(some p19), none, .mov (.t p6)⟩, ⟨(some p20), none, .call (.c (.func (.func 57) #[] #[])) [(.t p19)]⟩, ⟨(some p21), none, .call (.c (.func (.func 68) #[] #[])) [(.t p18), (.t p20)]⟩, ⟨(some p22), none, .mov (.t p6)⟩, ⟨(some p23), none, .mov (.t p6)⟩, ⟨(some p24), none, .call (.c (.func (.func 57) #[] #[])) [(.t p23)]⟩, ⟨(some p25), none, .mov (.t p1)⟩, ⟨(some p26), none, .cvt .u64 (.t p25)⟩, ⟨(some p27), none, .bin .shl (.c (.int .i64 1)) (.t p26)⟩, ⟨(some p28), none, .bin .andNot (.t p24) (.t p27)⟩, ⟨(some p29), none, .call (.c (.func (.func 68) #[] #[])) [(.t p22), (.t p28)]⟩, ⟨(some p30), none, .bin .sub (.t p21) (.t p29)⟩, ⟨(some p31), none, .build [(.int .i64 0), (.int .i64 0)] [(0, 1, (.t p30)), (1, 1, (.c (.int .i64 1)))]⟩, ⟨none, none, .st 2 (.t p4) (.t p31)⟩, ⟨(some p5), none, .mov (.c (.int .i64 0))⟩] []) .ret))))))) }
def a46 : AFunc := { params := [p0, p1], init := i24, results := [.cell (some 2) p4, .tmp p5], body := (.seq (.reg [⟨(some p2), none, .box (.t p0)⟩, ⟨(some p4), none, .zero [(.int .i64 0), (.int .i64 0)]⟩, ⟨(some p5), none, .mov (.c (.int .i64 0))⟩] []) (.kill [p0, p5] (.seq (.reg [⟨(some p9), none, .ld (some 3) (.t p2)⟩, ⟨(some p10), none, .mov (.t p1)⟩, ⟨(some p11), none, .call (.c (.func (.func 72) #[] #[])) [(.t p9), (.t p10)]⟩, ⟨(some p8), none, .mov (.t p11)⟩, ⟨(some p12), none, .ext 0 (.t p8)⟩, ⟨(some p13), none, .ext 1 (.t p8)⟩, ⟨(some p6), none, .mov (.t p12)⟩, ⟨(some p7), none, .mov (.t p13)⟩] []) (.kill [p2, p8, p9, p10, p11, p12, p13] (.seq (.seq (.reg [⟨(some p14), none, .mov (.t p7)⟩, ⟨(some p15), none, .bin .neq (.t p14) (.c (.int .i64 0))⟩] []) (.kill [p14] (.cond (.t p15) (.kill [p15] (.seq (.reg [⟨(some p16), none, .build [(.int .i64 0), (.int .i64 0)] []⟩, ⟨(some p17), none, .mov (.t p7)⟩, ⟨none, none, .st 2 (.t p4) (.t p16)⟩, ⟨(some p5), none, .mov (.t p17)⟩] []) .ret)) .skip))) (.kill [p15] (.seq (.reg [⟨(some p18), none, .mov (.t p6)⟩, ⟨(some p19), none, .mov (.t p1)⟩, ⟨(some p20), none, .cvt .u64 (.t p19)⟩, ⟨(some p21), none, .bin .shl (.c (.int .i64 1)) (.t p20)⟩, ⟨(some p22), none, .call (.c (.func (.func 68) #[] #[])) [(.t p18), (.t p21)]⟩, ⟨(some p23), none, .build [(.int .i64 0), (.int .i64 0)] [(0, 1, (.t p22)), (1, 1, (.c (.int .i64 1)))]⟩, ⟨none, none, .st 2 (.t p4) (.t p23)⟩, ⟨(some p5), none, .mov (.c (.int .i64 0))⟩] []) .ret))))))) }
def a48 : AFunc := { params := [p0], init := i13, results := [.cell (some 3) p2], body := (.seq (.reg [⟨(some p1), none, .box (.t p0)⟩, ⟨(some p2), none, .zero [(.slice none 0 0), (.slice none 0 0), (.slice none 0 0)]⟩] []) (.kill [p0] (.seq (.reg [⟨(some p3), none, .fad 0 (.t p1)⟩, ⟨(some p4), none, .ld none (.t p3)⟩, ⟨(some p5), none, .call (.c (.func (.func 43) #[] #[])) [(.t p4), (.c (.int .i64 11))]⟩, ⟨(some p6), none, .fad 1 (.t p1)⟩, ⟨(some p7), none, .ld none (.t p6)⟩, ⟨(some p8), none, .call (.c (.func (.func 43) #[] #[])) [(.t p7), (.c (.int .i64 11))]⟩, ⟨(some p9), none, .fad 2 (.t p1)⟩, ⟨(some p10), none, .ld none (.t p9)⟩, ⟨(some p11), none, .call (.c (.func (.func 43) #[] #[])) [(.t p10), (.c (.int .i64 8))]⟩, ⟨(some p12), none, .build [(.slice none 0 0), (.slice none 0 0), (.slice none 0 0)] [(0, 1, (.t p5)), (1, 1, (.t p8)), (2, 1, (.t p11))]⟩, ⟨none, none, .st 3 (.t p2) (.t p12)⟩] [(4, [2]), (7, [2, 5])]) .ret))) }
def a49 : AFunc := { params := [p0], init := i97, results := [.tmp p2], body := (.seq (.reg [⟨(some p1), none, .box (.t p0)⟩, ⟨(some p2), none, .mov (.c (.bool false))⟩] []) (.kill [p0, p2] (.seq (.reg [⟨(some p6), none, .fad 0 (.t p1)⟩, ⟨(some p7), none, .ld none (.t p6)⟩, ⟨(some p8), none, .len 1 (.t p7)⟩, ⟨(some p3), none, .mov (.t p8)⟩] []) (.kill [p6, p7, p8] (.seq (.seq (.reg [⟨(some p9), none, .mov (.t p3)⟩, ⟨(some p10), none, .bin .lss (.t p9) (.c (.int .i64 1))⟩, ⟨(some p11), none, .mov (.t p10)⟩, ⟨(some p12), (some (p11, false)), .mov (.t p3)⟩, ⟨(some p13), (some (p11, false)), .bin .gtr (.t p12) (.c (.int .i64 10))⟩, ⟨(some p14), none, .pick (.t p11) (.c (.bool true)) (.t p13)⟩, ⟨(some p15), none, .mov (.t p14)⟩, ⟨(some p16), (some (p15, false)), .fad 1 (.t p1)⟩, ⟨(some p17), (some (p15, false)), .ld none (.t p16)⟩, ⟨(some p18), (some (p15, false)), .len 1 (.t p17)⟩, ⟨(some p19), (some (p15, false)), .mov (.t p3)⟩, ⟨(some p20), (some (p15, false)), .bin .neq (.t p18) (.t p19)⟩, ⟨(some p21), none, .pick (.t p15) (.c (.bool true)) (.t p20)⟩, ⟨(some p22), none, .mov (.t p21)⟩, ⟨(some p23), (some (p22, false)), .fad 0 (.t p1)⟩, ⟨(some p24), (some (p22, false)), .ld none (.t p23)⟩, ⟨(some p25), (some (p22, false)), .ias 1 (.t p24) (.c (.int .i64 0))⟩, ⟨(some p26), (some (p22, false)), .ld none (.t p25)⟩, ⟨(some p27), (some (p22, false)), .bin .neq (.t p26) (.c (.int .i64 (-1)))⟩, ⟨(some p28), none, .pick (.t p22) (.c (.bool true)) (.t p27)⟩, ⟨(some p29), none, .mov (.t p28)⟩, ⟨(some p30), (some (p29, false)), .fad 2 (.t p1)⟩, ⟨(some p31), (some (p29, false)), .ld none (.t p30)⟩, ⟨(some p32), (some (p29, false)), .len 1 (.t p31)⟩, ⟨(some p33), (some (p29, false)), .bin .gtr (.t p32) (.c (.int .i64 7))⟩, ⟨(some p34), none, .pick (.t p29) (.c (.bool true)) (.t p33)⟩] []) (.kill [p9, p10, p11, p12, p13, p14, p15, p16, p17, p18, p19, p20, p21, p22, p23, p24, p25, p26, p27, p28, p29, p30, p31, p32, p33] (.cond (.t p34) (.kill [p34] (.seq (.reg [⟨(some p2), none, .mov (.c (.bool false))⟩] []) .ret)) .skip))) (.kill [p34] (.seq (.seq (.reg [⟨(some p4), none, .mov (.c (.int .i64 0))⟩] []) (.block 0 (.loop (.seq (.seq (.reg [⟨(some p35), none, .mov (.t p4)⟩, ⟨(some p36), none, .mov (.t p3)⟩, ⟨(some p37), none, .bin .lss (.t p35) (.t p36)⟩] []) (.kill [p35, p36] (.cond (.t p37) .skip (.exit 0)))) (.kill [p37] (.seq (.block 1 (.seq (.reg [⟨(some p40), none, .mov (.t p4)⟩, ⟨(some p41), none, .bin .gtr (.t p40) (.c (.int .i64 0))⟩, ⟨(some p42), none, .mov (.t p41)⟩, ⟨(some p43), (some (p42, true)), .fad 0 (.t p1)⟩, ⟨(some p44), (some (p42, true)), .ld none (.t p43)⟩, ⟨(some p45), (some (p42, true)), .mov (.t p4)⟩, ⟨(some p46), (some (p42, true)), .ias 1 (.t p44) (.t p45)⟩, ⟨(some p47), (some (p42, true)), .ld none (.t p46)⟩, ⟨(some p48), (some (p42, true)), .bin .lss (.t p47) (.c (.int .i64 0))⟩, ⟨(some p49), (some (p42, true)), .mov (.t p48)⟩, ⟨(some p50), (some (p49, false)), .fad 0 (.t p1)⟩, ⟨(some p51), (some (p49, false)), .ld none (.t p50)⟩, ⟨(some p52), (some (p49, false)), .mov (.t p4)⟩, ⟨(some p53), (some (p49, false)), .ias 1 (.t p51) (.t p52)⟩, ⟨(some p54), (some (p49, false)), .ld none (.t p53)⟩, ⟨(some p55), (some (p49, false)), .mov (.t p4)⟩, ⟨(some p56), (some (p49, false)), .bin .geq (.t p54) (.t p55)⟩, ⟨(some p57), (some (p42, true)), .pick (.t p49) (.c (.bool true)) (.t p56)⟩, ⟨(some p58), none, .pick (.t p42) (.t p57) (.c (.bool false))⟩, ⟨(some p59), none, .mov (.t p58)⟩, ⟨(some p60), (some (p59, false)), .fad 1 (.t p1)⟩, ⟨(some p61), (some (p59, false)), .ld none (.t p60)⟩, ⟨(some p62), (some (p59, false)), .mov (.t p4)⟩, ⟨(some p63), (some (p59, false)), .ias 1 (.t p61) (.t p62)⟩, ⟨(some p64), (some (p59, false)), .ld none (.t p63)⟩, ⟨(some p65), (some (p59, false)), .bin .lss (.t p64) (.c (.int .i64 0))⟩, ⟨(some p66), none, .pick (.t p59) (.c (.bool true)) (.t p65)⟩, ⟨(some p67), none, .mov (.t p66)⟩, ⟨(some p68), (some (p67, false)), .fad 1 (.t p1)⟩, ⟨(some p69), (some (p67, false)), .ld none (.t p68)⟩, ⟨(some p70), (some (p67, false)), .mov (.t p4)⟩, ⟨(some p71), (some (p67, false)), .ias 1 (.t p69) (.t p70)⟩, ⟨(some p72), (some (p67, false)), .ld none (.t p71)⟩, ⟨(some p73), (some (p67, false)), .bin .gtr (.t p72) (.c (.int .i64 1000))⟩, ⟨(some p74), none, .pick (.t p67) (.c (.bool true)) (.t p73)⟩] []) (.kill [p40, p41, p42, p43, p44, p45, p46, p47, p48, p49, p50, p51, p52, p53, p54, p55, p56, p57, p58, p59, p60, p61, p62, p63, p64, p65, p66, p67, p68, p69, p70, p71, p72, p73] (.cond (.t p74) (.kill [p74] (.seq (.reg [⟨(some p2), none, .mov (.c (.bool false))⟩] []) .ret)) .skip)))) (.kill [p74] (.reg [⟨(some p38), none, .mov (.t p4)⟩, ⟨(some p39), none, .bin .add (.t p38) (.c (.int .i64 1))⟩, ⟨(some p4), none, .mov (.t p39)⟩] [])))))))) (.kill [p4, p37] (.seq (.seq (.reg [⟨(some p5), none, .mov (.c (.int .i64 0))⟩] []) (.block 2 (.loop (.seq (.seq (.reg [⟨(some p75), none, .mov (.t p5)⟩, ⟨(some p76), none, .fad 2 (.t p1)⟩, ⟨(some p77), none, .ld none (.t p76)⟩, ⟨(some p78), none, .len 1 (.t p77)⟩, ⟨(some p79), none, .bin .lss (.t p75) (.t p78)⟩] []) (.kill [p75, p76, p77, p78] (.cond (.t p79) .skip (.exit 2)))) (.kill [p79] (.seq (.block 3 (.seq (.reg [⟨(some p82), none, .fad 2 (.t p1)⟩, ⟨(some p83), none, .ld none (.t p82)⟩, ⟨(some p84), none, .mov (.t p5)⟩, ⟨(some p85), none, .ias 1 (.t p83) (.t p84)⟩, ⟨(some p86), none, .ld none (.t p85)⟩, ⟨(some p87), none, .bin .lss (.t p86) (.c (.int .i64 0))⟩, ⟨(some p88), none, .mov (.t p87)⟩, ⟨(some p89), (some (p88, false)), .fad 2 (.t p1)⟩, ⟨(some p90), (some (p88, false)), .ld none (.t p89)⟩, ⟨(some p91), (some (p88, false)), .mov (.t p5)⟩, ⟨(some p92), (some (p88, false)), .ias 1 (.t p90) (.t p91)⟩, ⟨(some p93), (some (p88, false)), .ld none (.t p92)⟩, ⟨(some p94), (some (p88, false)), .mov (.t p3)⟩, ⟨(some p95), (some (p88, false)), .bin .geq (.t p93) (.t p94)⟩, ⟨(some p96), none, .pick (.t p88) (.c (.bool true)) (.t p95)⟩] []) (.kill [p82, p83, p84, p85, p86, p87, p88, p89, p90, p91, p92, p93, p94, p95] (.cond (.t p96) (.kill [p96] (.seq (.reg [⟨(some p2), none, .mov (.c (.bool false))⟩] []) .ret)) .skip)))) (.kill [p96] (.reg [⟨(some p80), none, .mov (.t p5)⟩, ⟨(some p81), none, .bin .add (.t p80) (.c (.int .i64 1))⟩, ⟨(some p5), none, .mov (.t p81)⟩] [])))))))) (.kill [p1, p3, p5, p79] (.seq (.reg [⟨(some p2), none, .mov (.c (.bool true))⟩] []) .ret))))))))))) }
def a50 : AFunc := { params := [p0], init := i76, results := [.tmp p2], body := (.seq (.reg [⟨(some p1), none, .box (.t p0)⟩, ⟨(some p2), none, .mov (.c (.int .i64 0))⟩] []) (.kill [p0, p2] (.seq (.reg [⟨(some p6), none, .fad 0 (.t p1)⟩, ⟨(some p7), none, .ld none (.t p6)⟩, ⟨(some p8), none, .len 1 (.t p7)⟩, ⟨(some p3), none, .zero [(.int .i64 0)]⟩, ⟨none, none, .st 1 (.t p3) (.t p8)⟩] []) (.kill [p6, p7, p8] (.seq (.seq (.reg [⟨(some p9), none, .ld none (.t p3)⟩, ⟨(some p10), none, .bin .lss (.t p9) (.c (.int .i64 1))⟩, ⟨(some p11), none, .mov (.t p10)⟩, ⟨(some p12), (some (p11, false)), .ld none (.t p3)⟩, ⟨(some p13), (some (p11, false)), .bin .gtr (.t p12) (.c (.int .i64 10))⟩, ⟨(some p14), none, .pick (.t p11) (.c (.bool true)) (.t p13)⟩, ⟨(some p15), none, .mov (.t p14)⟩, ⟨(some p16), (some (p15, false)), .fad 1 (.t p1)⟩, ⟨(some p17), (some (p15, false)), .ld none (.t p16)⟩, ⟨(some p18), (some (p15, false)), .len 1 (.t p17)⟩, ⟨(some p19), (some (p15, false)), .ld none (.t p3)⟩, ⟨(some p20), (some (p15, false)), .bin .neq (.t p18) (.t p19)⟩, ⟨(some p21), none, .pick (.t p15) (.c (.bool true)) (.t p20)⟩, ⟨(some p22), none, .mov (.t p21)⟩, ⟨(some p23), (some (p22, false)), .fad 2 (.t p1)⟩, ⟨(some p24), (some (p22, false)), .ld none (.t p23)⟩, ⟨(some p25), (some (p22, false)), .len 1 (.t p24)⟩, ⟨(some p26), (some (p22, false)), .bin .gtr (.t p25) (.c (.int .i64 7))⟩, ⟨(some p27), none, .pick (.t p22) (.c (.bool true)) (.t p26)⟩] []) (.kill [p9, p10, p11, p12, p13, p14, p15, p16, p17, p18, p19, p20, p21, p22, p23, p24, p25, p26] (.cond (.t p27) (.kill [p27] (.seq (.reg [⟨(some p2), none, .mov (.c (.int .i64 100))⟩] []) .ret)) .skip))) (.kill [p27] (.seq (.seq (.reg [⟨(some p28), none, .fad 0 (.t p1)⟩, ⟨(some p29), none, .ld none (.t p28)⟩, ⟨(some p30), none, .len 1 (.t p29)⟩, ⟨(some p31), none, .mov (.c (.int .i64 0))⟩] []) (.kill [p28] (.block 0 (.loop (.seq (.reg [⟨(some p32), none, .bin .lss (.t p31) (.t p30)⟩] []) (.seq (.cond (.t p32) .skip (.exit 0)) (.kill [p32] (.seq (.block 1 (.seq (.reg [⟨(some p33), none, .mov (.t p31)⟩, ⟨(some p34), none, .ias 1 (.t p29) (.t p31)⟩, ⟨(some p35), none, .ld none (.t p34)⟩, ⟨(some p4), none, .mov (.t p33)⟩, ⟨(some p5), none, .mov (.t p35)⟩] []) (.kill [p33, p34, p35] (.seq (.reg [⟨(some p36), none, .mov (.t p4)⟩, ⟨(some p37), none, .bin .eql (.t p36) (.c (.int .i64 0))⟩, ⟨(some p38), none, .mov (.t p37)⟩, ⟨(some p39), (some (p38, true)), .mov (.t p5)⟩, ⟨(some p40), (some (p38, true)), .bin .neq (.t p39) (.c (.int .i64 (-1)))⟩, ⟨(some p41), none, .pick (.t p38) (.t p40) (.c (.bool false))⟩, ⟨(some p42), none, .mov (.t p41)⟩, ⟨(some p43), (some (p42, false)), .mov (.t p4)⟩, ⟨(some p44), (some (p42, false)), .bin .gtr (.t p43) (.c (.int .i64 0))⟩, ⟨(some p45), (some (p42, false)), .mov (.t p44)⟩, ⟨(some p46), (some (p45, true)), .mov (.t p5)⟩, ⟨(some p47), (some (p45, true)), .bin .lss (.t p46) (.c (.int .i64 0))⟩, ⟨(some p48), (some (p45, true)), .mov (.t p47)⟩, ⟨(some p49), (some (p48, false)), .mov (.t p5)⟩, ⟨(some p50), (some (p48, false)), .mov (.t p4)⟩, ⟨(some p51), (some (p48, false)), .bin .geq (.t p49) (.t p50)⟩, ⟨(some p52), (some (p45, true)), .pick (.t p48) (.c (.bool true)) (.t p51)⟩, ⟨(some p53), (some (p42, false)), .pick (.t p45) (.t p52) (.c (.bool false))⟩, ⟨(some p54), none, .pick (.t p42) (.c (.bool true)) (.t p53)⟩, ⟨(some p55), none, .mov (.t p54)⟩, ⟨(some p56), (some (p55, false)), .fad 1 (.t p1)⟩, ⟨(some p57), (some (p55, false)), .ld none (.t p56)⟩, ⟨(some p58), (some (p55, false)), .mov (.t p4)⟩, ⟨(some p59), (some (p55, false)), .ias 1 (.t p57) (.t p58)⟩, ⟨(some p60), (some (p55, false)), .ld none (.t p59)⟩, ⟨(some p61), (some (p55, false)), .bin .lss (.t p60) (.c (.int .i64 0))⟩, ⟨(some p62), none, .pick (.t p55) (.c (.bool true)) (.t p61)⟩, ⟨(some p63), none, .mov (.t p62)⟩, ⟨(some p64), (some (p63, false)), .fad 1 (.t p1)⟩, ⟨(some p65), (some (p63, false)), .ld none (.t p64)⟩, ⟨(some p66), (some (p63, false)), .mov (.t p4)⟩, ⟨(some p67), (some (p63, false)), .ias 1 (.t p65) (.t p66)⟩, ⟨(some p68), (some (p63, false)), .ld none (.t p67)⟩, ⟨(some p69), (some (p63, false)), .bin .gtr (.t p68) (.c (.int .i64 1000))⟩, ⟨(some p70), none, .pick (.t p63) (.c (.bool true)) (.t p69)⟩] []) (.kill [p4, p5, p36, p37, p38, p39, p40, p41, p42, p43, p44, p45, p46, p47, p48, p49, p50, p51, p52, p53, p54, p55, p56, p57, p58, p59, p60, p61, p62, p63, p64, p65, p66, p67, p68, p69] (.cond (.t p70) (.kill [p70] (.seq (.reg [⟨(some p2), none, .mov (.c (.int .i64 100))⟩] []) .ret)) .skip)))))) (.kill [p70] (.reg [⟨(some p71), none, .bin .add (.t p31) (.c (.int .i64 1))⟩, ⟨(some p31), none, .mov (.t p71)⟩] [])))))))))) (.kill [p29, p30, p31, p32] (.seq (.seq (.reg [⟨(some p72), none, .fad 2 (.t p1)⟩, ⟨(some p73), none, .ld none (.t p72)⟩, ⟨(some p74), none, .clos (.func 76) [] [(.t p3)]⟩, ⟨(some p75), none, .call (.c (.func (.func 75) #[] #[])) [(.t p73), (.t p74)]⟩] []) (.kill [p1, p3, p72, p73, p74] (.cond (.t p75) (.kill [p75] (.seq (.reg [⟨(some p2), none, .mov (.c (.int .i64 100))⟩] []) .ret)) .skip))) (.kill [p75] (.seq (.reg [⟨(some p2), none, .mov (.c (.int .i64 0))⟩] []) .ret))))))))))) }
def a51 : AFunc := { params := [p0, p1], init := i51, results := [.tmp p4], body := (.seq (.reg [⟨(some p2), none, .box (.t p0)⟩, ⟨(some p4), none, .mov (.c (.bool false))⟩] []) (.kill [p0, p4] (.seq (.reg [⟨(some p5), none, .mov (.c (.int .i64 0))⟩] []) (.seq (.seq (.reg [⟨(some p6), none, .mov (.c (.int .i64 0))⟩] []) (.block 0 (.loop (.seq (.seq (.reg [⟨(some p7), none, .mov (.t p6)⟩, ⟨(some p8), none, .mov (.t p1)⟩, ⟨(some p9), none, .len 1 (.t p8)⟩, ⟨(some p10), none, .bin .lss (.t p7) (.t p9)⟩] []) (.kill [p7, p8, p9] (.cond (.t p10) .skip (.exit 0)))) (.kill [p10] (.seq (.block 1 (.seq (.seq (.reg [⟨(some p13), none, .mov (.t p1)⟩, ⟨(some p14), none, .mov (.t p6)⟩, ⟨(some p15), none, .ias 1 (.t p13) (.t p14)⟩, ⟨(some p16), none, .ld none (.t p15)⟩, ⟨(some p17), none, .bin .lss (.t p16) (.c (.int .i64 0))⟩, ⟨(some p18), none, .mov (.t p17)⟩, ⟨(some p19), (some (p18, false)), .mov (.t p1)⟩, ⟨(some p20), (some (p18, false)), .mov (.t p6)⟩, ⟨(some p21), (some (p18, false)), .ias 1 (.t p19) (.t p20)⟩, ⟨(some p22), (some (p18, false)), .ld none (.t p21)⟩, ⟨(some p23), (some (p18, false)), .fad 2 (.t p2)⟩, ⟨(some p24), (some (p18, false)), .ld none (.t p23)⟩, ⟨(some p25), (some (p18, false)), .len 1 (.t p24)⟩, ⟨(some p26), (some (p18, false)), .bin .geq (.t p22) (.t p25)⟩, ⟨(some p27), none, .pick (.t p18) (.c (.bool true)) (.t p26)⟩, ⟨(some p28), none, .mov (.t p27)⟩, ⟨(some p29), (some (p28, false)), .mov (.t p5)⟩, ⟨(some p30), (some (p28, false)), .mov (.t p1)⟩, ⟨(some p31), (some (p28, false)), .mov (.t p6)⟩, ⟨(some p32), (some (p28, false)), .ias 1 (.t p30) (.t p31)⟩, ⟨(some p33), (some (p28, false)), .ld none (.t p32)⟩, ⟨(some p34), (some (p28, false)), .bin .shr (.t p29) (.t p33)⟩, ⟨(some p35), (some (p28, false)), .bin .rem (.t p34) (.c (.int .i64 2))⟩, ⟨(some p36), (some (p28, false)), .bin .eql (.t p35) (.c (.int .i64 1))⟩, ⟨(some p37), none, .pick (.t p28) (.c (.bool true)) (.t p36)⟩] []) (.kill [p13, p14, p15, p16, p17, p18, p19, p20, p21, p22, p23, p24, p25, p26, p27, p28, p29, p30, p31, p32, p33, p34, p35, p36] (.cond (.t p37) (.kill [p37] (.seq (.reg [⟨(some p4), none, .mov (.c (.bool false))⟩] []) .ret)) .skip))) (.kill [p37] (.reg [⟨(some p38), none, .mov (.t p5)⟩, ⟨(some p39), none, .mov (.t p1)⟩, ⟨(some p40), none, .mov (.t p6)⟩, ⟨(some p41), none, .ias 1 (.t p39) (.t p40)⟩, ⟨(some p42), none, .ld none (.t p41)⟩, ⟨(some p43), none, .bin .shl (.c (.int .i64 1)) (.t p42)⟩, ⟨(some p44), none, .bin .or (.t p38) (.t p43)⟩, ⟨(some p5), none, .mov (.t p44)⟩] [])))) (.kill [p38, p39, p40, p41, p42, p43, p44] (.reg [⟨(some p11), none, .mov (.t p6)⟩, ⟨(some p12), none, .bin .add (.t p11) (.c (.int .i64 1))⟩, ⟨(some p6), none, .mov (.t p12)⟩] [])))))))) (.kill [p5, p6, p10] (.seq (.reg [⟨(some p45), none, .mov (.t p1)⟩, ⟨(some p46), none, .len 1 (.t p45)⟩, ⟨(some p47), none, .fad 2 (.t p2)⟩, ⟨(some p48), none, .ld none (.t p47)⟩, ⟨(some p49), none, .len 1 (.t p48)⟩, ⟨(some p50), none, .bin .eql (.t p46) (.t p49)⟩, ⟨(some p4), none, .mov (.t p50)⟩] []) .ret)))))) }
def a52 : AFunc := { params := [p0], init := i47, results := [.tmp p2, .tmp p3], body := (.seq (.reg [⟨(some p1), none, .box (.t p0)⟩, ⟨(some p2), none, .mov (.c (.pointer none))⟩, ⟨(some p3), none, .mov (.c (.int .i64 0))⟩] []) (.kill [p0, p2, p3] (.seq (.seq (.reg [⟨(some p8), none, .ld (some 3) (.t p1)⟩, ⟨(some p9), none, .call (.c (.func (.func 50) #[] #[])) [(.t p8)]⟩, ⟨(some p4), none, .mov (.t p9)⟩] []) (.kill [p8, p9] (.seq (.reg [⟨(some p10), none, .mov (.t p4)⟩, ⟨(some p11), none, .bin .neq (.t p10) (.c (.int .i64 0))⟩] []) (.kill [p10] (.cond (.t p11) (.kill [p11] (.seq (.reg [⟨(some p12), none, .mov (.t p4)⟩, ⟨(some p2), none, .mov (.c (.pointer none))⟩, ⟨(some p3), none, .mov (.t p12)⟩] []) .ret)) .skip))))) (.kill [p11] (.seq (.reg [⟨(some p13), none, .ld (some 3) (.t p1)⟩, ⟨(some p14), none, .mkmap⟩, ⟨(some p15), none, .build [(.slice none 0 0), (.slice none 0 0), (.slice none 0 0), (.int .i64 0), (.int .i64 0), (.int .i64 0), (.int .i64 0), (.int .i64 0), (.int .i64 0), (.int .i64 0), (.map none)] [(0, 3, (.t p13)), (10, 1, (.t p14))]⟩, ⟨(some p16), none, .box (.t p15)⟩, ⟨(some p5), none, .mov (.t p16)⟩] []) (.kill [p13, p14, p15, p16] (.seq (.seq (.reg [⟨(some p17), none, .fad 2 (.t p1)⟩, ⟨(some p18), none, .ld none (.t p17)⟩, ⟨(some p19), none, .len 1 (.t p18)⟩, ⟨(some p20), none, .mov (.c (.int .i64 0))⟩] []) (.kill [p17] (.block 0 (.loop (.seq (.reg [⟨(some p21), none, .bin .lss (.t p20) (.t p19)⟩] []) (.seq (.cond (.t p21) .skip (.exit 0)) (.kill [p21] (.seq (.block 1 (.seq (.reg [⟨(some p22), none, .mov (.t p20)⟩, ⟨(some p23), none, .ias 1 (.t p18) (.t p20)⟩, ⟨(some p24), none, .ld none (.t p23)⟩, ⟨(some p6), none, .mov (.t p22)⟩, ⟨(some p7), none, .mov (.t p24)⟩] []) (.kill [p22, p23, p24] (.block 2 (.loop (.seq (.seq (.reg [⟨(some p25), none, .mov (.t p7)⟩, ⟨(some p26), none, .bin .geq (.t p25) (.c (.int .i64 0))⟩] []) (.kill [p25] (.cond (.t p26) .skip (.exit 2)))) (.kill [p26] (.seq (.block 3 (.reg [⟨(some p32), none, .mov (.t p5)⟩, ⟨(some p33), none, .mov (.t p6)⟩, ⟨(some p34), none, .nilchk (.t p32)⟩, ⟨(some p35), none, .fad 3 (.t p34)⟩, ⟨(some p36), none, .iad 7 1 (.t p35) (.t p33)⟩, ⟨(some p37), none, .ld none (.t p36)⟩, ⟨(some p38), none, .mov (.t p7)⟩, ⟨(some p39), none, .cvt .u64 (.t p38)⟩, ⟨(some p40), none, .bin .shl (.c (.int .i64 1)) (.t p39)⟩, ⟨(some p41), none, .bin .or (.t p37) (.t p40)⟩, ⟨(some p42), none, .nilchk (.t p32)⟩, ⟨(some p43), none, .fad 3 (.t p42)⟩, ⟨(some p44), none, .iad 7 1 (.t p43) (.t p33)⟩, ⟨none, none, .st 1 (.t p44) (.t p41)⟩] [])) (.kill [p32, p33, p34, p35, p36, p37, p38, p39, p40, p41, p42, p43, p44] (.reg [⟨(some p27), none, .fad 0 (.t p1)⟩, ⟨(some p28), none, .ld none (.t p27)⟩, ⟨(some p29), none, .mov (.t p7)⟩, ⟨(some p30), none, .ias 1 (.t p28) (.t p29)⟩, ⟨(some p31), none, .ld none (.t p30)⟩, ⟨(some p7), none, .mov (.t p31)⟩] [])))))))))) (.kill [p6, p7, p26] (.reg [⟨(some p45), none, .bin .add (.t p20) (.c (.int .i64 1))⟩, ⟨(some p20), none, .mov (.t p45)⟩] [])))))))))) (.kill [p1, p18, p19, p20, p21, p26] (.seq (.reg [⟨(some p46), none, .mov (.t p5)⟩, ⟨(some p2), none, .mov (.t p46)⟩, ⟨(some p3), none, .mov (.c (.int .i64 0))⟩] []) .ret))))))))) }
def a53 : AFunc := { params := [p0], init := i19, results := [.tmp p2], body := (.seq (.reg [⟨(some p2), none, .mov (.c (.slice none 0 0))⟩] []) (.kill [p2] (.seq (.reg [⟨(some p3), none, .mov (.c (.slice none 0 0))⟩] []) (.seq (.seq (.reg [⟨(some p5), none, .mov (.t p0)⟩, ⟨(some p6), none, .cvt .u64 (.t p5)⟩, ⟨(some p4), none, .mov (.t p6)⟩] []) (.kill [p0, p5, p6] (.block 0 (.loop (.seq (.seq (.reg [⟨(some p7), none, .mov (.t p4)⟩, ⟨(some p8), none, .bin .neq (.t p7) (.c (.int .u64 0))⟩] []) (.kill [p7] (.cond (.t p8) .skip (.exit 0)))) (.kill [p8] (.seq (.block 1 (.reg [⟨(some p13), none, .mov (.t p3)⟩, ⟨(some p14), none, .mov (.t p4)⟩, ⟨(some p15), none, .call (.c (.func (.func 77) #[] #[])) [(.t p14)]⟩, ⟨(some p16), none, .bslice 1 1 [(.int .i64 0)] [(0, 1, (.t p15))]⟩, ⟨(some p17), none, .app 1 (.t p13) (.t p16)⟩, ⟨(some p3), none, .mov (.t p17)⟩] [])) (.kill [p13, p14, p15, p16, p17] (.reg [⟨(some p9), none, .mov (.t p4)⟩, ⟨(some p10), none, .mov (.t p4)⟩, ⟨(some p11), none, .bin .sub (.t p10) (.c (.int .u64 1))⟩, ⟨(some p12), none, .bin .and (.t p9) (.t p11)⟩, ⟨(some p4), none, .mov (.t p12)⟩] []))))))))) (.kill [p4, p8] (.seq (.reg [⟨(some p18), none, .mov (.t p3)⟩, ⟨(some p2), none, .mov (.t p18)⟩] []) .ret)))))) }
def a54 : AFunc := { params := [p0, p1], init := i28, results := [.cell (some 2) p4], body := (.seq (.reg [⟨(some p2), none, .box (.t p0)⟩, ⟨(some p3), none, .box (.t p1)⟩, ⟨(some p4), none, .zero [(.int .i64 0), (.int .i64 0)]⟩] []) (.kill [p0, p1] (.seq (.seq (.reg [⟨(some p5), none, .ld (some 2) (.t p2)⟩, ⟨(some p6), none, .ld (some 2) (.c (.pointer (some ⟨0, 0, none⟩)))⟩, ⟨(some p7), none, .eqs (.cells [.int, .int]) false (.t p5) (.t p6)⟩] []) (.kill [p5, p6] (.cond (.t p7) (.kill [p7] (.seq (.reg [⟨(some p8), none, .ld (some 2) (.t p3)⟩, ⟨(some p9), none, .call (.c (.func (.func 78) #[] #[])) [(.t p8)]⟩, ⟨none, none, .st 2 (.t p4) (.t p9)⟩] []) .ret)) .skip))) (.kill [p7] (.seq (.reg [⟨(some p10), none, .fad 0 (.t p2)⟩, ⟨(some p11), none, .ld none (.t p10)⟩, ⟨(some p12), none, .fad 1 (.t p3)⟩, ⟨(some p13), none, .ld none (.t p12)⟩, ⟨(some p14), none, .bin .mul (.t p11) (.t p13)⟩, ⟨(some p15), none, .fad 0 (.t p3)⟩, ⟨(some p16), none, .ld none (.t p15)⟩, ⟨(some p17), none, .fad 1 (.t p2)⟩, ⟨(some p18), none, .ld none (.t p17)⟩, ⟨(some p19), none, .bin .mul (.t p16) (.t p18)⟩, ⟨(some p20), none, .bin .add (.t p14) (.t p19)⟩, ⟨(some p21), none, .fad 1 (.t p2)⟩, ⟨(some p22), none, .ld none (.t p21)⟩, ⟨(some p23), none, .fad 1 (.t p3)⟩, ⟨(some p24), none, .ld none (.t p23)⟩, ⟨(some p25), none, .bin .mul (.t p22) (.t p24)⟩, ⟨(some p26), none, .build [(.int .i64 0), (.int .i64 0)] [(0, 1, (.t p20)), (1, 1, (.t p25))]⟩, ⟨(some p27), none, .call (.c (.func (.func 78) #[] #[])) [(.t p26)]⟩, ⟨none, none, .st 2 (.t p4) (.t p27)⟩] []) .ret))))) }
def a55 : AFunc := { params := [p0, p1], init := i32, results := [.tmp p4], body := (.seq (.reg [⟨(some p4), none, .mov (.c (.int .i64 0))⟩] []) (.kill [p4] (.seq (.reg [⟨(some p5), none, .mov (.c (.int .i64 0))⟩] []) (.seq (.seq (.reg [⟨(some p8), none, .mov (.t p0)⟩, ⟨(some p9), none, .nilchk (.t p8)⟩, ⟨(some p10), none, .fad 3 (.t p9)⟩, ⟨(some p11), none, .mov (.t p0)⟩, ⟨(some p12), none, .nilchk (.t p11)⟩, ⟨(some p13), none, .fad 0 (.t p12)⟩, ⟨(some p14), none, .fad 2 (.t p13)⟩, ⟨(some p15), none, .ld none (.t p14)⟩, ⟨(some p16), none, .len 1 (.t p15)⟩, ⟨(some p17), none, .slarr 7 1 (.t p10) none (some (.t p16)) none⟩, ⟨(some p18), none, .len 1 (.t p17)⟩, ⟨(some p19), none, .mov (.c (.int .i64 0))⟩] []) (.kill [p0, p8, p9, p10, p11, p12, p13, p14, p15, p16] (.block 0 (.loop (.seq (.reg [⟨(some p20), none, .bin .lss (.t p19) (.t p18)⟩] []) (.seq (.cond (.t p20) .skip (.exit 0)) (.kill [p20] (.seq (.block 1 (.seq (.reg [⟨(some p21), none, .ias 1 (.t p17) (.t p19)⟩, ⟨(some p22), none, .ld none (.t p21)⟩, ⟨(some p7), none, .mov (.t p22)⟩] []) (.kill [p21, p22] (.reg [⟨(some p23), none, .mov (.t p5)⟩, ⟨(some p24), none, .mov (.t p7)⟩, ⟨(some p25), none, .mov (.t p1)⟩, ⟨(some p26), none, .cvt .u64 (.t p25)⟩, ⟨(some p27), none, .bin .shr (.t p24) (.t p26)⟩, ⟨(some p28), none, .bin .and (.t p27) (.c (.int .i64 1))⟩, ⟨(some p29), none, .bin .add (.t p23) (.t p28)⟩, ⟨(some p5), none, .mov (.t p29)⟩] [])))) (.kill [p7, p23, p24, p25, p26, p27, p28, p29] (.reg [⟨(some p30), none, .bin .add (.t p19) (.c (.int .i64 1))⟩, ⟨(some p19), none, .mov (.t p30)⟩] [])))))))))) (.kill [p1, p17, p18, p19, p20] (.seq (.reg [⟨(some p31), none, .mov (.t p5)⟩, ⟨(some p4), none, .mov (.t p31)⟩] []) .ret)))))) }
def a56 : AFunc := { params := [p0], init := i22, results := [.tmp p2], body := (.seq (.reg [⟨(some p2), none, .mov (.c (.slice none 0 0))⟩] []) (.kill [p2] (.seq (.reg [⟨(some p3), none, .mov (.c (.slice none 0 0))⟩] []) (.seq (.seq (.reg [⟨(some p6), none, .mov (.t p0)⟩, ⟨(some p7), none, .len 1 (.t p6)⟩, ⟨(some p8), none, .mov (.c (.int .i64 0))⟩] []) (.kill [p0] (.block 0 (.loop (.seq (.reg [⟨(some p9), none, .bin .lss (.t p8) (.t p7)⟩] []) (.seq (.cond (.t p9) .skip (.exit 0)) (.kill [p9] (.seq (.block 1 (.seq (.reg [⟨(some p10), none, .ias 2 (.t p6) (.t p8)⟩, ⟨(some p11), none, .ld (some 2) (.t p10)⟩, ⟨(some p5), none, .zero [(.int .i64 0), (.int .i64 0)]⟩, ⟨none, none, .st 2 (.t p5) (.t p11)⟩] []) (.kill [p10, p11] (.reg [⟨(some p12), none, .mov (.t p3)⟩, ⟨(some p13), none, .fad 0 (.t p5)⟩, ⟨(some p14), none, .ld none (.t p13)⟩, ⟨(some p15), none, .fad 1 (.t p5)⟩, ⟨(some p16), none, .ld none (.t p15)⟩, ⟨(some p17), none, .build [(.int .i64 0), (.int .i64 0)] [(0, 1, (.t p14)), (1, 1, (.t p16))]⟩, ⟨(some p18), none, .bslice 1 2 [(.int .i64 0), (.int .i64 0)] [(0, 2, (.t p17))]⟩, ⟨(some p19), none, .app 2 (.t p12) (.t p18)⟩, ⟨(some p3), none, .mov (.t p19)⟩] [])))) (.kill [p5, p12, p13, p14, p15, p16, p17, p18, p19] (.reg [⟨(some p20), none, .bin .add (.t p8) (.c (.int .i64 1))⟩, ⟨(some p8), none, .mov (.t p20)⟩] [])))))))))) (.kill [p6, p7, p8, p9] (.seq (.reg [⟨(some p21), none, .mov (.t p3)⟩, ⟨(some p2), none, .mov (.t p21)⟩] []) .ret)))))) }
def a57 : AFunc := { params := [p0], init := i12, results := [.tmp p2], body := (.seq (.reg [⟨(some p2), none, .mov (.c (.int .i64 0))⟩] []) (.kill [p2] (.seq (.reg [⟨(some p3), none, .mov (.t p0)⟩, ⟨(some p4), none, .nilchk (.t p3)⟩, ⟨(some p5), none, .fad 0 (.t p4)⟩, ⟨(some p6), none, .fad 2 (.t p5)⟩, ⟨(some p7), none, .ld none (.t p6)⟩, ⟨(some p8), none, .len 1 (.t p7)⟩, ⟨(some p9), none, .cvt .u64 (.t p8)⟩, ⟨(some p10), none, .bin .shl (.c (.int .i64 1)) (.t p9)⟩, ⟨(some p11), none, .bin .sub (.t p10) (.c (.int .i64 1))⟩, ⟨(some p2), none, .mov (.t p11)⟩] []) .ret))) }
def a58 : AFunc := { params := [p0, p1], init := i39, results := [.tmp p4], body := (.seq (.reg [⟨(some p4), none, .mov (.c (.slice none 0 0))⟩] []) (.kill [p4] (.seq (.reg [⟨(some p9), none, .mov (.t p1)⟩, ⟨(some p10), none, .len 1 (.t p9)⟩, ⟨(some p11), none, .mks 1 8 [(.int .i64 0)] (.t p10) (.t p10)⟩, ⟨(some p5), none, .mov (.t p11)⟩] []) (.kill [p9, p10, p11] (.seq (.reg [⟨(some p6), none, .mov (.c (.int .i64 0))⟩] []) (.seq (.seq (.reg [⟨(some p12), none, .mov (.t p1)⟩, ⟨(some p13), none, .len 1 (.t p12)⟩, ⟨(some p14), none, .mov (.c (.int .i64 0))⟩] []) (.kill [p1] (.block 0 (.loop (.seq (.reg [⟨(some p15), none, .bin .lss (.t p14) (.t p13)⟩] []) (.seq (.cond (.t p15) .skip (.exit 0)) (.kill [p15] (.seq (.block 1 (.seq (.reg [⟨(some p16), none, .ias 1 (.t p12) (.t p14)⟩, ⟨(some p17), none, .ld none (.t p16)⟩, ⟨(some p8), none, .mov (.t p17)⟩] []) (.kill [p16, p17] (.seq (.reg [⟨(some p18), none, .mov (.t p5)⟩, ⟨(some p19), none, .mov (.t p8)⟩, ⟨(some p20), none, .mov (.t p0)⟩, ⟨(some p21), none, .mov (.t p6)⟩, ⟨(some p22), none, .mov (.t p8)⟩, ⟨(some p23), none, .cvt .u64 (.t p22)⟩, ⟨(some p24), none, .bin .shl (.c (.int .i64 1)) (.t p23)⟩, ⟨(some p25), none, .bin .or (.t p21) (.t p24)⟩, ⟨(some p26), none, .call (.c (.func (.func 68) #[] #[])) [(.t p20), (.t p25)]⟩, ⟨(some p27), none, .mov (.t p0)⟩, ⟨(some p28), none, .mov (.t p6)⟩, ⟨(some p29), none, .call (.c (.func (.func 68) #[] #[])) [(.t p27), (.t p28)]⟩, ⟨(some p30), none, .bin .sub (.t p26) (.t p29)⟩, ⟨(some p31), none, .ias 1 (.t p18) (.t p19)⟩, ⟨none, none, .st 1 (.t p31) (.t p30)⟩] []) (.kill [p18, p19, p20, p21, p22, p23, p24, p25, p26, p27, p28, p29, p30, p31] (.reg [⟨(some p32), none, .mov (.t p6)⟩, ⟨(some p33), none, .mov (.t p8)⟩, ⟨(some p34), none, .cvt .u64 (.t p33)⟩, ⟨(some p35), none, .bin .shl (.c (.int .i64 1)) (.t p34)⟩, ⟨(some p36), none, .bin .or (.t p32) (.t p35)⟩, ⟨(some p6), none, .mov (.t p36)⟩] [])))))) (.kill [p8, p32, p33, p34, p35, p36] (.reg [⟨(some p37), none, .bin .add (.t p14) (.c (.int .i64 1))⟩, ⟨(some p14), none, .mov (.t p37)⟩] [])))))))))) (.kill [p0, p6, p12, p13, p14, p15] (.seq (.reg [⟨(some p38), none, .mov (.t p5)⟩, ⟨(some p4), none, .mov (.t p38)⟩] []) .ret)))))))) }
def a61 : AFunc := { params := [p0, p1], init := i15, results := [.tmp p4], body := (.seq (.reg [⟨(some p4), none, .mov (.c (.int .i64 0))⟩] []) (.kill [p4] (.seq (.block 0 (.loop (.seq (.seq (.reg [⟨(some p5), none, .mov (.t p1)⟩, ⟨(some p6), none, .bin .neq (.t p5) (.c (.int .i64 0))⟩] []) (.kill [p5] (.cond (.t p6) .skip (.exit 0)))) (.kill [p6] (.block 1 (.reg [⟨(some p7), none, .mov (.t p1)⟩, ⟨(some p8), none, .mov (.t p0)⟩, ⟨(some p9), none, .mov (.t p1)⟩, ⟨(some p10), none, .bin .rem (.t p8) (.t p9)⟩, ⟨(some p0), none, .mov (.t p7)⟩, ⟨(some p1), none, .mov (.t p10)⟩] [])))))) (.kill [p1, p6] (.seq (.reg [⟨(some p11), none, .mov (.t p0)⟩, ⟨(some p12), none, .mov (.t p0)⟩, ⟨(some p13), none, .un .neg (.t p12)⟩, ⟨(some p14), none, .max (.t p11) [(.t p13)]⟩, ⟨(some p4), none, .mov (.t p14)⟩] []) .ret))))) }
def a62 : AFunc := { params := [p0, p1, p2], init := i40, results := [.tmp p6], body := (.seq (.reg [⟨(some p6), none, .mov (.c (.int .i64 0))⟩] []) (.kill [p6] (.seq (.reg [⟨(some p7), none, .mov (.c (.slice none 0 0))⟩] []) (.seq (.seq (.reg [⟨(some p10), none, .mov (.t p2)⟩, ⟨(some p11), none, .call (.c (.func (.func 53) #[] #[])) [(.t p10)]⟩, ⟨(some p12), none, .len 1 (.t p11)⟩, ⟨(some p13), none, .mov (.c (.int .i64 0))⟩] []) (.kill [p10] (.block 0 (.loop (.seq (.reg [⟨(some p14), none, .bin .lss (.t p13) (.t p12)⟩] []) (.seq (.cond (.t p14) .skip (.exit 0)) (.kill [p14] (.seq (.block 1 (.seq (.reg [⟨(some p15), none, .ias 1 (.t p11) (.t p13)⟩, ⟨(some p16), none, .ld none (.t p15)⟩, ⟨(some p9), none, .mov (.t p16)⟩] []) (.kill [p15, p16] (.reg [⟨(some p17), none, .mov (.t p7)⟩, ⟨(some p18), none, .mov (.t p1)⟩, ⟨(some p19), none, .mov (.t p9)⟩, ⟨(some p20), none, .ias 2 (.t p18) (.t p19)⟩, ⟨(some p21), none, .iad 2 1 (.t p20) (.c (.int .i64 0))⟩, ⟨(some p22), none, .ld none (.t p21)⟩, ⟨(some p23), none, .mov (.t p1)⟩, ⟨(some p24), none, .mov (.t p9)⟩, ⟨(some p25), none, .ias 2 (.t p23) (.t p24)⟩, ⟨(some p26), none, .iad 2 1 (.t p25) (.c (.int .i64 1))⟩, ⟨(some p27), none, .ld none (.t p26)⟩, ⟨(some p28), none, .bin .quo (.c (.int .i64 5040)) (.t p27)⟩, ⟨(some p29), none, .bin .mul (.t p22) (.t p28)⟩, ⟨(some p30), none, .bslice 1 1 [(.int .i64 0)] [(0, 1, (.t p29))]⟩, ⟨(some p31), none, .app 1 (.t p17) (.t p30)⟩, ⟨(some p7), none, .mov (.t p31)⟩] [])))) (.kill [p9, p17, p18, p19, p20, p21, p22, p23, p24, p25, p26, p27, p28, p29, p30, p31] (.reg [⟨(some p32), none, .bin .add (.t p13) (.c (.int .i64 1))⟩, ⟨(some p13), none, .mov (.t p32)⟩] [])))))))))) (.kill [p1, p11, p12, p13, p14] (.seq (.reg [⟨(some p33), none, .mov (.t p7)⟩, ⟨(some p34), none, .call (.c (.func (.func 79) #[] #[])) [(.t p33)]⟩, ⟨(some p35), none, .mov (.t p0)⟩, ⟨(some p36), none, .mov (.t p2)⟩, ⟨(some p37), none, .call (.c (.func (.func 68) #[] #[])) [(.t p35), (.t p36)]⟩, ⟨(some p38), none, .bin .mul (.c (.int .i64 5040)) (.t p37)⟩, ⟨(some p39), none, .bin .sub (.t p34) (.t p38)⟩, ⟨(some p6), none, .mov (.t p39)⟩] []) .ret)))))) }
def a63 : AFunc := { params := [p0, p1], init := i9, results := [.tmp p4], body := (.seq (.reg [⟨(some p4), none, .mov (.c (.bool false))⟩] []) (.kill [p4] (.seq (.reg [⟨(some p5), none, .mov (.t p0)⟩, ⟨(some p6), none, .mov (.t p1)⟩, ⟨(some p7), none, .call (.c (.func (.func 80) #[] #[])) [(.t p5), (.t p6)]⟩, ⟨(some p8), none, .bin .geq (.t p7) (.c (.int .i64 0))⟩, ⟨(some p4), none, .mov (.t p8)⟩] []) .ret))) }
def a64 : AFunc := { params := [p0], init := i6, results := [.tmp p2], body := (.seq (.reg [⟨(some p1), none, .box (.t p0)⟩, ⟨(some p2), none, .mov (.c (.bool false))⟩] []) (.kill [p0, p2] (.seq (.reg [⟨(some p3), none, .iad 2 1 (.t p1) (.c (.int .i64 0))⟩, ⟨(some p4), none, .ld none (.t p3)⟩, ⟨(some p5), none, .bin .lss (.t p4) (.c (.int .i64 0))⟩, ⟨(some p2), none, .mov (.t p5)⟩] []) .ret))) }
def a66 : AFunc := { params := [p0, p1], init := i60, results := [.tmp p4], body := (.seq (.reg [⟨(some p3), none, .box (.t p1)⟩, ⟨(some p4), none, .mov (.c (.slice none 0 0))⟩] []) (.kill [p1, p4] (.seq (.reg [⟨(some p14), none, .mov (.t p0)⟩, ⟨(some p15), none, .nilchk (.t p14)⟩, ⟨(some p16), none, .fad 0 (.t p15)⟩, ⟨(some p17), none, .fad 2 (.t p16)⟩, ⟨(some p18), none, .ld none (.t p17)⟩, ⟨(some p19), none, .len 1 (.t p18)⟩, ⟨(some p5), none, .mov (.t p19)⟩] []) (.kill [p0, p14, p15, p16, p17, p18, p19] (.seq (.reg [⟨(some p20), none, .mov (.t p5)⟩, ⟨(some p21), none, .mks 1 8 [(.int .i64 0)] (.t p20) (.t p20)⟩, ⟨(some p6), none, .zero [(.slice none 0 0)]⟩, ⟨none, none, .st 1 (.t p6) (.t p21)⟩] []) (.kill [p20, p21] (.seq (.reg [⟨(some p7), none, .zero [(.int .i64 0)]⟩, ⟨none, none, .st 1 (.t p7) (.c (.int .i64 0))⟩] []) (.seq (.seq (.reg [⟨(some p22), none, .mov (.t p5)⟩, ⟨(some p23), none, .call (.c (.func (.func 81) #[] #[])) [(.t p22)]⟩] []) (.kill [p5, p22] (.block 0 (.rangeF (.t p23) [p24] (.reg [⟨(some p8), none, .mov (.t p24)⟩] []) (.block 1 (.seq (.reg [⟨(some p25), none, .ld none (.t p7)⟩, ⟨(some p26), none, .bin .add (.t p25) (.c (.int .i64 1))⟩, ⟨none, none, .st 1 (.t p7) (.t p26)⟩] []) (.seq (.reg [⟨(some p27), none, .ld none (.t p3)⟩, ⟨(some p28), none, .mov (.t p8)⟩, ⟨(some p29), none, .call (.t p27) [(.t p28)]⟩, ⟨(some p30), none, .len 1 (.t p29)⟩, ⟨(some p31), none, .mov (.c (.int .i64 0))⟩] []) (.block 2 (.loop (.seq (.reg [⟨(some p32), none, .bin .lss (.t p31) (.t p30)⟩] []) (.seq (.cond (.t p32) .skip (.exit 2)) (.seq (.block 3 (.seq (.reg [⟨(some p33), none, .mov (.t p31)⟩, ⟨(some p34), none, .ias 1 (.t p29) (.t p31)⟩, ⟨(some p35), none, .ld none (.t p34)⟩, ⟨(some p9), none, .mov (.t p33)⟩, ⟨(some p10), none, .mov (.t p35)⟩] []) (.reg [⟨(some p36), none, .ld none (.t p6)⟩, ⟨(some p37), none, .mov (.t p9)⟩, ⟨(some p38), none, .ias 1 (.t p36) (.t p37)⟩, ⟨(some p39), none, .ld none (.t p38)⟩, ⟨(some p40), none, .mov (.t p10)⟩, ⟨(some p41), none, .bin .add (.t p39) (.t p40)⟩, ⟨(some p42), none, .ias 1 (.t p36) (.t p37)⟩, ⟨none, none, .st 1 (.t p42) (.t p41)⟩] []))) (.reg [⟨(some p43), none, .bin .add (.t p31) (.c (.int .i64 1))⟩, ⟨(some p31), none, .mov (.t p43)⟩] []))))))))))))) (.seq (.reg [⟨(some p11), none, .mov (.c (.slice none 0 0))⟩] []) (.seq (.seq (.reg [⟨(some p44), none, .ld none (.t p6)⟩, ⟨(some p45), none, .len 1 (.t p44)⟩, ⟨(some p46), none, .mov (.c (.int .i64 0))⟩] []) (.kill [p6] (.block 4 (.loop (.seq (.reg [⟨(some p47), none, .bin .lss (.t p46) (.t p45)⟩] []) (.seq (.cond (.t p47) .skip (.exit 4)) (.kill [p47] (.seq (.block 5 (.seq (.reg [⟨(some p48), none, .ias 1 (.t p44) (.t p46)⟩, ⟨(some p49), none, .ld none (.t p48)⟩, ⟨(some p13), none, .mov (.t p49)⟩] []) (.kill [p48, p49] (.reg [⟨(some p50), none, .mov (.t p11)⟩, ⟨(some p51), none, .mov (.t p13)⟩, ⟨(some p52), none, .ld none (.t p7)⟩, ⟨(some p53), none, .build [(.int .i64 0), (.int .i64 0)] [(0, 1, (.t p51)), (1, 1, (.t p52))]⟩, ⟨(some p54), none, .call (.c (.func (.func 78) #[] #[])) [(.t p53)]⟩, ⟨(some p55), none, .bslice 1 2 [(.int .i64 0), (.int .i64 0)] [(0, 2, (.t p54))]⟩, ⟨(some p56), none, .app 2 (.t p50) (.t p55)⟩, ⟨(some p11), none, .mov (.t p56)⟩] [])))) (.kill [p13, p50, p51, p52, p53, p54, p55, p56] (.reg [⟨(some p57), none, .bin .add (.t p46) (.c (.int .i64 1))⟩, ⟨(some p46), none, .mov (.t p57)⟩] [])))))))))) (.kill [p7, p44, p45, p46, p47] (.seq (.reg [⟨(some p58), none, .mov (.t p11)⟩, ⟨(some p59), none, .call (.c (.func (.func 56) #[] #[])) [(.t p58)]⟩, ⟨(some p4), none, .mov (.t p59)⟩] []) .ret)))))))))))) }
def a67 : AFunc := { params := [p0, p1, p2], init := i33, results := [.tmp p4], body := (.seq (.reg [⟨(some p4), none, .mov (.c (.slice none 0 0))⟩] []) (.kill [p4] (.seq (.reg [⟨(some p9), none, .mov (.t p0)⟩, ⟨(some p10), none, .len 1 (.t p9)⟩, ⟨(some p11), none, .mks 1 8 [(.int .i64 0)] (.t p10) (.t p10)⟩, ⟨(some p5), none, .mov (.t p11)⟩] []) (.kill [p9, p10, p11] (.seq (.reg [⟨(some p6), none, .mov (.c (.int .i64 0))⟩] []) (.seq (.seq (.reg [⟨(some p12), none, .mov (.t p0)⟩, ⟨(some p13), none, .len 1 (.t p12)⟩, ⟨(some p14), none, .mov (.c (.int .i64 0))⟩] []) (.kill [p0] (.block 0 (.loop (.seq (.reg [⟨(some p15), none, .bin .lss (.t p14) (.t p13)⟩] []) (.seq (.cond (.t p15) .skip (.exit 0)) (.kill [p15] (.seq (.block 1 (.seq (.reg [⟨(some p16), none, .ias 1 (.t p12) (.t p14)⟩, ⟨(some p17), none, .ld none (.t p16)⟩, ⟨(some p8), none, .mov (.t p17)⟩] []) (.kill [p16, p17] (.seq (.reg [⟨(some p18), none, .mov (.t p6)⟩, ⟨(some p19), none, .mov (.t p8)⟩, ⟨(some p20), none, .cvt .u64 (.t p19)⟩, ⟨(some p21), none, .bin .shl (.c (.int .i64 1)) (.t p20)⟩, ⟨(some p22), none, .bin .or (.t p18) (.t p21)⟩, ⟨(some p6), none, .mov (.t p22)⟩] []) (.kill [p18, p19, p20, p21, p22] (.seq (.reg [⟨(some p23), none, .ld none (.t p1)⟩, ⟨(some p24), none, .mov (.t p6)⟩, ⟨(some p25), none, .call (.c (.func (.func 68) #[] #[])) [(.t p23), (.t p24)]⟩, ⟨(some p26), none, .ld none (.t p2)⟩, ⟨(some p27), none, .bin .gtr (.t p25) (.t p26)⟩] [(3, [2])]) (.kill [p23, p24, p25, p26] (.cond (.t p27) (.kill [p27] (.seq (.reg [⟨(some p28), none, .mov (.t p5)⟩, ⟨(some p29), none, .mov (.t p8)⟩, ⟨(some p30), none, .ias 1 (.t p28) (.t p29)⟩, ⟨none, none, .st 1 (.t p30) (.c (.int .i64 1))⟩] []) (.kill [p8, p28, p29, p30] (.exit 0)))) .skip)))))))) (.kill [p27] (.reg [⟨(some p31), none, .bin .add (.t p14) (.c (.int .i64 1))⟩, ⟨(some p14), none, .mov (.t p31)⟩] [])))))))))) (.kill [p1, p2, p6, p12, p13, p14, p15] (.seq (.reg [⟨(some p32), none, .mov (.t p5)⟩, ⟨(some p4), none, .mov (.t p32)⟩] []) .ret)))))))) }
def a68 : AFunc := { params := [p0, p1], init := i72, results := [.tmp p4], body := (.seq (.reg [⟨(some p4), none, .mov (.c (.int .i64 0))⟩] []) (.kill [p4] (.seq (.seq (.reg [⟨(some p14), none, .mov (.t p0)⟩, ⟨(some p15), none, .nilchk (.t p14)⟩, ⟨(some p16), none, .fad 10 (.t p15)⟩, ⟨(some p17), none, .ld none (.t p16)⟩, ⟨(some p18), none, .mov (.t p1)⟩, ⟨(some p19), none, .look true [.int] (.int .i64 0) (.t p17) (.t p18)⟩, ⟨(some p13), none, .mov (.t p19)⟩, ⟨(some p20), none, .ext 0 (.t p13)⟩, ⟨(some p21), none, .ext 1 (.t p13)⟩, ⟨(some p5), none, .mov (.t p20)⟩, ⟨(some p6), none, .mov (.t p21)⟩] []) (.kill [p13, p14, p15, p16, p17, p18, p19, p20, p21] (.seq (.reg [⟨(some p22), none, .mov (.t p6)⟩] []) (.kill [p6] (.cond (.t p22) (.kill [p22] (.seq (.reg [⟨(some p23), none, .mov (.t p5)⟩, ⟨(some p4), none, .mov (.t p23)⟩] []) .ret)) .skip))))) (.kill [p22] (.seq (.reg [⟨(some p7), none, .mov (.c (.int .i64 0))⟩] []) (.seq (.seq (.reg [⟨(some p24), none, .mov (.t p1)⟩, ⟨(some p25), none, .call (.c (.func (.func 53) #[] #[])) [(.t p24)]⟩, ⟨(some p26), none, .len 1 (.t p25)⟩, ⟨(some p27), none, .mov (.c (.int .i64 0))⟩] []) (.kill [p24] (.block 0 (.loop (.seq (.reg [⟨(some p28), none, .bin .lss (.t p27) (.t p26)⟩] []) (.seq (.cond (.t p28) .skip (.exit 0)) (.kill [p28] (.seq (.block 1 (.seq (.reg [⟨(some p29), none, .ias 1 (.t p25) (.t p27)⟩, ⟨(some p30), none, .ld none (.t p29)⟩, ⟨(some p9), none, .mov (.t p30)⟩] []) (.kill [p29, p30] (.reg [⟨(some p31), none, .mov (.t p7)⟩, ⟨(some p32), none, .mov (.t p0)⟩, ⟨(some p33), none, .mov (.t p9)⟩, ⟨(some p34), none, .nilchk (.t p32)⟩, ⟨(some p35), none, .fad 3 (.t p34)⟩, ⟨(some p36), none, .iad 7 1 (.t p35) (.t p33)⟩, ⟨(some p37), none, .ld none (.t p36)⟩, ⟨(some p38), none, .bin .or (.t p31) (.t p37)⟩, ⟨(some p7), none, .mov (.t p38)⟩] [])))) (.kill [p9, p31, p32, p33, p34, p35, p36, p37, p38] (.reg [⟨(some p39), none, .bin .add (.t p27) (.c (.int .i64 1))⟩, ⟨(some p27), none, .mov (.t p39)⟩] [])))))))))) (.kill [p25, p26, p27, p28] (.seq (.reg [⟨(some p10), none, .mov (.c (.slice none 0 0))⟩] []) (.seq (.seq (.reg [⟨(some p40), none, .mov (.t p7)⟩, ⟨(some p41), none, .call (.c (.func (.func 53) #[] #[])) [(.t p40)]⟩, ⟨(some p42), none, .len 1 (.t p41)⟩, ⟨(some p43), none, .mov (.c (.int .i64 0))⟩] []) (.kill [p7, p40] (.block 2 (.loop (.seq (.reg [⟨(some p44), none, .bin .lss (.t p43) (.t p42)⟩] []) (.seq (.cond (.t p44) .skip (.exit 2)) (.kill [p44] (.seq (.block 3 (.seq (.reg [⟨(some p45), none, .ias 1 (.t p41) (.t p43)⟩, ⟨(some p46), none, .ld none (.t p45)⟩, ⟨(some p12), none, .mov (.t p46)⟩] []) (.kill [p45, p46] (.reg [⟨(some p47), none, .mov (.t p10)⟩, ⟨(some p48), none, .mov (.t p0)⟩, ⟨(some p49), none, .nilchk (.t p48)⟩, ⟨(some p50), none, .fad 0 (.t p49)⟩, ⟨(some p51), none, .fad 1 (.t p50)⟩, ⟨(some p52), none, .ld none (.t p51)⟩, ⟨(some p53), none, .mov (.t p12)⟩, ⟨(some p54), none, .ias 1 (.t p52) (.t p53)⟩, ⟨(some p55), none, .ld none (.t p54)⟩, ⟨(some p56), none, .bslice 1 1 [(.int .i64 0)] [(0, 1, (.t p55))]⟩, ⟨(some p57), none, .app 1 (.t p47) (.t p56)⟩, ⟨(some p10), none, .mov (.t p57)⟩] [])))) (.kill [p12, p47, p48, p49, p50, p51, p52, p53, p54, p55, p56, p57] (.reg [⟨(some p58), none, .bin .add (.t p43) (.c (.int .i64 1))⟩, ⟨(some p43), none, .mov (.t p58)⟩] [])))))))))) (.kill [p41, p42, p43, p44] (.seq (.reg [⟨(some p59), none, .mov (.t p0)⟩, ⟨(some p60), none, .nilchk (.t p59)⟩, ⟨(some p61), none, .fad 10 (.t p60)⟩, ⟨(some p62), none, .ld none (.t p61)⟩, ⟨(some p63), none, .mov (.t p1)⟩, ⟨(some p64), none, .mov (.t p10)⟩, ⟨(some p65), none, .call (.c (.func (.func 71) #[] #[])) [(.t p64)]⟩, ⟨none, none, .mset [.int] (.t p62) (.t p63) (.t p65)⟩] [(3, [7])]) (.kill [p10, p59, p60, p61, p62, p63, p64, p65] (.seq (.reg [⟨(some p66), none, .mov (.t p0)⟩, ⟨(some p67), none, .nilchk (.t p66)⟩, ⟨(some p68), none, .fad 10 (.t p67)⟩, ⟨(some p69), none, .ld none (.t p68)⟩, ⟨(some p70), none, .mov (.t p1)⟩, ⟨(some p71), none, .look false [.int] (.int .i64 0) (.t p69) (.t p70)⟩, ⟨(some p4), none, .mov (.t p71)⟩] []) .ret))))))))))))) }
def a70 : AFunc := { params := [p0, p1], init := i25, results := [.tmp p4, .tmp p5], body := (.seq (.reg [⟨(some p2), none, .box (.t p0)⟩, ⟨(some p4), none, .mov (.c (.pointer none))⟩, ⟨(some p5), none, .mov (.c (.int .i64 0))⟩] []) (.kill [p0, p4, p5] (.seq (.reg [⟨(some p9), none, .ld (some 3) (.t p2)⟩, ⟨(some p10), none, .call (.c (.func (.func 52) #[] #[])) [(.t p9)]⟩, ⟨(some p8), none, .mov (.t p10)⟩, ⟨(some p11), none, .ext 0 (.t p8)⟩, ⟨(some p12), none, .ext 1 (.t p8)⟩, ⟨(some p6), none, .mov (.t p11)⟩, ⟨(some p7), none, .mov (.t p12)⟩] []) (.kill [p2, p8, p9, p10, p11, p12] (.seq (.seq (.reg [⟨(some p13), none, .mov (.t p7)⟩, ⟨(some p14), none, .bin .neq (.t p13) (.c (.int .i64 0))⟩] []) (.kill [p13] (.cond (.t p14) (.kill [p14] (.seq (.reg [⟨(some p15), none, .mov (.t p7)⟩, ⟨(some p4), none, .mov (.c (.pointer none))⟩, ⟨(some p5), none, .mov (.t p15)⟩] []) .ret)) .skip))) (.kill [p14] (.seq (.seq (.reg [⟨(some p16), none, .mov (.t p1)⟩, ⟨(some p17), none, .bin .lss (.t p16) (.c (.int .i64 0))⟩, ⟨(some p18), none, .mov (.t p17)⟩, ⟨(some p19), (some (p18, false)), .mov (.t p1)⟩, ⟨(some p20), (some (p18, false)), .mov (.t p6)⟩, ⟨(some p21), (some (p18, false)), .call (.c (.func (.func 57) #[] #[])) [(.t p20)]⟩, ⟨(some p22), (some (p18, false)), .bin .gtr (.t p19) (.t p21)⟩, ⟨(some p23), none, .pick (.t p18) (.c (.bool true)) (.t p22)⟩] []) (.kill [p1, p16, p17, p18, p19, p20, p21, p22] (.cond (.t p23) (.kill [p23] (.seq (.reg [⟨(some p4), none, .mov (.c (.pointer none))⟩, ⟨(some p5), none, .mov (.c (.int .i64 1))⟩] []) .ret)) .skip))) (.kill [p23] (.seq (.reg [⟨(some p24), none, .mov (.t p6)⟩, ⟨(some p4), none, .mov (.t p24)⟩, ⟨(some p5), none, .mov (.c (.int .i64 0))⟩] []) .ret))))))))) }
def a71 : AFunc := { params := [p0], init := i17, results := [.tmp p2], body := (.seq (.reg [⟨(some p2), none, .mov (.c (.int .i64 0))⟩] []) (.kill [p2] (.seq (.reg [⟨(some p3), none, .mov (.c (.int .i64 0))⟩] []) (.seq (.seq (.reg [⟨(some p6), none, .mov (.t p0)⟩, ⟨(some p7), none, .len 1 (.t p6)⟩, ⟨(some p8), none, .mov (.c (.int .i64 0))⟩] []) (.kill [p0] (.block 0 (.loop (.seq (.reg [⟨(some p9), none, .bin .lss (.t p8) (.t p7)⟩] []) (.seq (.cond (.t p9) .skip (.exit 0)) (.kill [p9] (.seq (.block 1 (.seq (.reg [⟨(some p10), none, .ias 1 (.t p6) (.t p8)⟩, ⟨(some p11), none, .ld none (.t p10)⟩, ⟨(some p5), none, .mov (.t p11)⟩] []) (.kill [p10, p11] (.reg [⟨(some p12), none, .mov (.t p3)⟩, ⟨(some p13), none, .mov (.t p5)⟩, ⟨(some p14), none, .bin .add (.t p12) (.t p13)⟩, ⟨(some p3), none, .mov (.t p14)⟩] [])))) (.kill [p5, p12, p13, p14] (.reg [⟨(some p15), none, .bin .add (.t p8) (.c (.int .i64 1))⟩, ⟨(some p8), none, .mov (.t p15)⟩] [])))))))))) (.kill [p6, p7, p8, p9] (.seq (.reg [⟨(some p16), none, .mov (.t p3)⟩, ⟨(some p2), none, .mov (.t p16)⟩] []) .ret)))))) }
def a72 : AFunc := { params := [p0, p1], init := i26, results := [.tmp p4, .tmp p5], body := (.seq (.reg [⟨(some p2), none, .box (.t p0)⟩, ⟨(some p4), none, .mov (.c (.pointer none))⟩, ⟨(some p5), none, .mov (.c (.int .i64 0))⟩] []) (.kill [p0, p4, p5] (.seq (.reg [⟨(some p9), none, .ld (some 3) (.t p2)⟩, ⟨(some p10), none, .call (.c (.func (.func 52) #[] #[])) [(.t p9)]⟩, ⟨(some p8), none, .mov (.t p10)⟩, ⟨(some p11), none, .ext 0 (.t p8)⟩, ⟨(some p12), none, .ext 1 (.t p8)⟩, ⟨(some p6), none, .mov (.t p11)⟩, ⟨(some p7), none, .mov (.t p12)⟩] []) (.kill [p8, p9, p10, p11, p12] (.seq (.seq (.reg [⟨(some p13), none, .mov (.t p7)⟩, ⟨(some p14), none, .bin .neq (.t p13) (.c (.int .i64 0))⟩] []) (.kill [p13] (.cond (.t p14) (.kill [p14] (.seq (.reg [⟨(some p15), none, .mov (.t p7)⟩, ⟨(some p4), none, .mov (.c (.pointer none))⟩, ⟨(some p5), none, .mov (.t p15)⟩] []) .ret)) .skip))) (.kill [p14] (.seq (.seq (.reg [⟨(some p16), none, .mov (.t p1)⟩, ⟨(some p17), none, .bin .lss (.t p16) (.c (.int .i64 0))⟩, ⟨(some p18), none, .mov (.t p17)⟩, ⟨(some p19), (some (p18, false)), .mov (.t p1)⟩, ⟨(some p20), (some (p18, false)), .fad 2 (.t p2)⟩, ⟨(some p21), (some (p18, false)), .ld none (.t p20)⟩, ⟨(some p22), (some (p18, false)), .len 1 (.t p21)⟩, ⟨(some p23), (some (p18, false)), .bin .geq (.t p19) (.t p22)⟩, ⟨(some p24), none, .pick (.t p18) (.c (.bool true)) (.t p23)⟩] []) (.kill [p1, p2, p16, p17, p18, p19, p20, p21, p22, p23] (.cond (.t p24) (.kill [p24] (.seq (.reg [⟨(some p4), none, .mov (.c (.pointer none))⟩, ⟨(some p5), none, .mov (.c (.int .i64 1))⟩] []) .ret)) .skip))) (.kill [p24] (.seq (.reg [⟨(some p25), none, .mov (.t p6)⟩, ⟨(some p4), none, .mov (.t p25)⟩, ⟨(some p5), none, .mov (.c (.int .i64 0))⟩] []) .ret))))))))) }
def a73 : AFunc := { params := [p0], init := i8, results := [.tmp p2], body := (.seq (.reg [⟨(some p2), none, .mov (.c (.slice none 0 0))⟩] []) (.kill [p2] (.seq (.seq (.reg [⟨(some p3), none, .mov (.t p0)⟩, ⟨(some p4), none, .eqs (.slice) false (.t p3) (.c (.slice none 0 0))⟩] []) (.kill [p3] (.cond (.t p4) (.kill [p4] (.seq (.reg [⟨(some p2), none, .mov (.c (.slice none 0 0))⟩] []) .ret)) .skip))) (.kill [p4] (.seq (.reg [⟨(some p5), none, .bslice 0 1 [(.int .i64 0)] []⟩, ⟨(some p6), none, .mov (.t p0)⟩, ⟨(some p7), none, .app 1 (.t p5) (.t p6)⟩, ⟨(some p2), none, .mov (.t p7)⟩] []) .ret))))) }
def a74 : AFunc := { params := [p0, p1, p2], init := i33, results := [.tmp p6], body := (.seq (.reg [⟨(some p6), none, .mov (.c (.slice none 0 0))⟩] []) (.kill [p6] (.seq (.reg [⟨(some p8), none, .mov (.t p0)⟩, ⟨(some p9), none, .mov (.t p1)⟩, ⟨(some p10), none, .mov (.t p2)⟩, ⟨(some p11), none, .mov (.t p0)⟩, ⟨(some p12), none, .len 1 (.t p11)⟩, ⟨(some p13), none, .slsl 1 (.t p8) (some (.t p9)) (some (.t p10)) (some (.t p12))⟩] []) (.kill [p8, p9, p10, p11, p12, p13] (.seq (.seq (.reg [⟨(some p14), none, .mov (.t p1)⟩, ⟨(some p15), none, .mov (.t p2)⟩, ⟨(some p16), none, .bin .eql (.t p14) (.t p15)⟩] []) (.kill [p14, p15] (.cond (.t p16) (.kill [p16] (.seq (.reg [⟨(some p17), none, .mov (.t p0)⟩, ⟨(some p6), none, .mov (.t p17)⟩] []) .ret)) .skip))) (.kill [p16] (.seq (.reg [⟨(some p18), none, .mov (.t p0)⟩, ⟨(some p19), none, .len 1 (.t p18)⟩, ⟨(some p7), none, .mov (.t p19)⟩] []) (.kill [p18, p19] (.seq (.reg [⟨(some p20), none, .mov (.t p0)⟩, ⟨(some p21), none, .mov (.t p1)⟩, ⟨(some p22), none, .slsl 1 (.t p20) none (some (.t p21)) none⟩, ⟨(some p23), none, .mov (.t p0)⟩, ⟨(some p24), none, .mov (.t p2)⟩, ⟨(some p25), none, .slsl 1 (.t p23) (some (.t p24)) none none⟩, ⟨(some p26), none, .app 1 (.t p22) (.t p25)⟩, ⟨(some p0), none, .mov (.t p26)⟩] []) (.kill [p1, p2, p20, p21, p22, p23, p24, p25, p26] (.seq (.reg [⟨(some p27), none, .mov (.t p0)⟩, ⟨(some p28), none, .mov (.t p0)⟩, ⟨(some p29), none, .len 1 (.t p28)⟩, ⟨(some p30), none, .mov (.t p7)⟩, ⟨(some p31), none, .slsl 1 (.t p27) (some (.t p29)) (some (.t p30)) none⟩, ⟨none, none, .clr [(.int .i64 0)] (.t p31)⟩] []) (.kill [p7, p27, p28, p29, p30, p31] (.seq (.reg [⟨(some p32), none, .mov (.t p0)⟩, ⟨(some p6), none, .mov (.t p32)⟩] []) .ret))))))))))))) }
def a75 : AFunc := { params := [p0, p1], init := i9, results := [.tmp p4], body := (.seq (.reg [⟨(some p4), none, .mov (.c (.bool false))⟩] []) (.kill [p4] (.seq (.reg [⟨(some p5), none, .mov (.t p0)⟩, ⟨(some p6), none, .mov (.t p1)⟩, ⟨(some p7), none, .call (.c (.func (.func 82) #[] #[])) [(.t p5), (.t p6)]⟩, ⟨(some p8), none, .bin .geq (.t p7) (.c (.int .i64 0))⟩, ⟨(some p4), none, .mov (.t p8)⟩] []) .ret))) }
def a76 : AFunc := { params := [p0, p1], init := i11, results := [.tmp p3], body := (.seq (.reg [⟨(some p3), none, .mov (.c (.bool false))⟩] []) (.kill [p3] (.seq (.reg [⟨(some p4), none, .mov (.t p0)⟩, ⟨(some p5), none, .bin .lss (.t p4) (.c (.int .i64 0))⟩, ⟨(some p6), none, .mov (.t p5)⟩, ⟨(some p7), (some (p6, false)), .mov (.t p0)⟩, ⟨(some p8), (some (p6, false)), .ld none (.t p1)⟩, ⟨(some p9), (some (p6, false)), .bin .geq (.t p7) (.t p8)⟩, ⟨(some p10), none, .pick (.t p6) (.c (.bool true)) (.t p9)⟩, ⟨(some p3), none, .mov (.t p10)⟩] []) .ret))) }
def a77 : AFunc := { params := [p0], init := i8, results := [.tmp p2], body := (.seq (.reg [⟨(some p2), none, .mov (.c (.int .i64 0))⟩] []) (.kill [p2] (.seq (.cond (.c (.bool false)) (.seq (.reg [⟨(some p3), none, .mov (.t p0)⟩, ⟨(some p4), none, .cvt .u32 (.t p3)⟩, ⟨(some p5), none, .call (.c (.func (.func 83) #[] #[])) [(.t p4)]⟩, ⟨(some p2), none, .mov (.t p5)⟩] []) .ret) .skip) (.seq (.reg [⟨(some p6), none, .mov (.t p0)⟩, ⟨(some p7), none, .call (.c (.func (.func 84) #[] #[])) [(.t p6)]⟩, ⟨(some p2), none, .mov (.t p7)⟩] []) .ret)))) }
def a78 : AFunc := { params := [p0], init := i18, results := [.cell (some 2) p2], body := (.seq (.reg [⟨(some p1), none, .box (.t p0)⟩, ⟨(some p2), none, .zero [(.int .i64 0), (.int .i64 0)]⟩] []) (.kill [p0] (.seq (.reg [⟨(some p4), none, .fad 0 (.t p1)⟩, ⟨(some p5), none, .ld none (.t p4)⟩, ⟨(some p6), none, .fad 1 (.t p1)⟩, ⟨(some p7), none, .ld none (.t p6)⟩, ⟨(some p8), none, .call (.c (.func (.func 61) #[] #[])) [(.t p5), (.t p7)]⟩, ⟨(some p3), none, .mov (.t p8)⟩] []) (.kill [p4, p5, p6, p7, p8] (.seq (.reg [⟨(some p9), none, .fad 0 (.t p1)⟩, ⟨(some p10), none, .ld none (.t p9)⟩, ⟨(some p11), none, .mov (.t p3)⟩, ⟨(some p12), none, .bin .quo (.t p10) (.t p11)⟩, ⟨(some p13), none, .fad 1 (.t p1)⟩, ⟨(some p14), none, .ld none (.t p13)⟩, ⟨(some p15), none, .mov (.t p3)⟩, ⟨(some p16), none, .bin .quo (.t p14) (.t p15)⟩, ⟨(some p17), none, .build [(.int .i64 0), (.int .i64 0)] [(0, 1, (.t p12)), (1, 1, (.t p16))]⟩, ⟨none, none, .st 2 (.t p2) (.t p17)⟩] []) .ret))))) }
def a79 : AFunc := { params := [p0], init := i17, results := [.tmp p2], body := (.seq (.reg [⟨(some p2), none, .mov (.c (.int .i64 0))⟩] []) (.kill [p2] (.seq (.reg [⟨(some p3), none, .mov (.c (.int .i64 0))⟩] []) (.seq (.seq (.reg [⟨(some p6), none, .mov (.t p0)⟩, ⟨(some p7), none, .len 1 (.t p6)⟩, ⟨(some p8), none, .mov (.c (.int .i64 0))⟩] []) (.kill [p0] (.block 0 (.loop (.seq (.reg [⟨(some p9), none, .bin .lss (.t p8) (.t p7)⟩] []) (.seq (.cond (.t p9) .skip (.exit 0)) (.kill [p9] (.seq (.block 1 (.seq (.reg [⟨(some p10), none, .ias 1 (.t p6) (.t p8)⟩, ⟨(some p11), none, .ld none (.t p10)⟩, ⟨(some p5), none, .mov (.t p11)⟩] []) (.kill [p10, p11] (.reg [⟨(some p12), none, .mov (.t p3)⟩, ⟨(some p13), none, .mov (.t p5)⟩, ⟨(some p14), none, .bin .add (.t p12) (.t p13)⟩, ⟨(some p3), none, .mov (.t p14)⟩] [])))) (.kill [p5, p12, p13, p14] (.reg [⟨(some p15), none, .bin .add (.t p8) (.c (.int .i64 1))⟩, ⟨(some p8), none, .mov (.t p15)⟩] [])))))))))) (.kill [p6, p7, p8, p9] (.seq (.reg [⟨(some p16), none, .mov (.t p3)⟩, ⟨(some p2), none, .mov (.t p16)⟩] []) .ret)))))) }
def a80 : AFunc := { params := [p0, p1], init := i19, results := [.tmp p4], body := (.seq (.reg [⟨(some p4), none, .mov (.c (.int .i64 0))⟩] []) (.kill [p4] (.seq (.seq (.reg [⟨(some p6), none, .mov (.t p0)⟩, ⟨(some p7), none, .len 1 (.t p6)⟩, ⟨(some p8), none, .mov (.c (.int .i64 0))⟩] []) (.kill [p6] (.block 0 (.loop (.seq (.reg [⟨(some p9), none, .bin .lss (.t p8) (.t p7)⟩] []) (.seq (.cond (.t p9) .skip (.exit 0)) (.kill [p9] (.seq (.block 1 (.seq (.reg [⟨(some p10), none, .mov (.t p8)⟩, ⟨(some p5), none, .mov (.t p10)⟩] []) (.kill [p10] (.seq (.reg [⟨(some p11), none, .mov (.t p1)⟩, ⟨(some p12), none, .mov (.t p0)⟩, ⟨(some p13), none, .mov (.t p5)⟩, ⟨(some p14), none, .ias 2 (.t p12) (.t p13)⟩, ⟨(some p15), none, .ld (some 2) (.t p14)⟩, ⟨(some p16), none, .call (.t p11) [(.t p15)]⟩] []) (.kill [p11, p12, p13, p14, p15] (.cond (.t p16) (.kill [p16] (.seq (.reg [⟨(some p17), none, .mov (.t p5)⟩, ⟨(some p4), none, .mov (.t p17)⟩] []) .ret)) .skip)))))) (.kill [p16] (.reg [⟨(some p18), none, .bin .add (.t p8) (.c (.int .i64 1))⟩, ⟨(some p8), none, .mov (.t p18)⟩] [])))))))))) (.kill [p0, p1, p7, p8, p9] (.seq (.reg [⟨(some p4), none, .mov (.c (.int .i64 (-1)))⟩] []) .ret))))) }
def a81 : AFunc := { params := [p0], init := i4, results := [.tmp p2], body := (.seq (.reg [⟨(some p1), none, .box (.t p0)⟩, ⟨(some p2), none, .mov (.c .nilFunc)⟩] []) (.kill [p0, p2] (.seq (.reg [⟨(some p3), none, .clos (.func 85) [] [(.t p1)]⟩, ⟨(some p2), none, .mov (.t p3)⟩] []) .ret))) }
def a82 : AFunc := { params := [p0, p1], init := i19, results := [.tmp p4], body := (.seq (.reg [⟨(some p4), none, .mov (.c (.int .i64 0))⟩] []) (.kill [p4] (.seq (.seq (.reg [⟨(some p6), none, .mov (.t p0)⟩, ⟨(some p7), none, .len 1 (.t p6)⟩, ⟨(some p8), none, .mov (.c (.int .i64 0))⟩] []) (.kill [p6] (.block 0 (.loop (.seq (.reg [⟨(some p9), none, .bin .lss (.t p8) (.t p7)⟩] []) (.seq (.cond (.t p9) .skip (.exit 0)) (.kill [p9] (.seq (.block 1 (.seq (.reg [⟨(some p10), none, .mov (.t p8)⟩, ⟨(some p5), none, .mov (.t p10)⟩] []) (.kill [p10] (.seq (.reg [⟨(some p11), none, .mov (.t p1)⟩, ⟨(some p12), none, .mov (.t p0)⟩, ⟨(some p13), none, .mov (.t p5)⟩, ⟨(some p14), none, .ias 1 (.t p12) (.t p13)⟩, ⟨(some p15), none, .ld none (.t p14)⟩, ⟨(some p16), none, .call (.t p11) [(.t p15)]⟩] []) (.kill [p11, p12, p13, p14, p15] (.cond (.t p16) (.kill [p16] (.seq (.reg [⟨(some p17), none, .mov (.t p5)⟩, ⟨(some p4), none, .mov (.t p17)⟩] []) .ret)) .skip)))))) (.kill [p16] (.reg [⟨(some p18), none, .bin .add (.t p8) (.c (.int .i64 1))⟩, ⟨(some p8), none, .mov (.t p18)⟩] [])))))))))) (.kill [p0, p1, p7, p8, p9] (.seq (.reg [⟨(some p4), none, .mov (.c (.int .i64 (-1)))⟩] []) .ret))))) }
def a83 : AFunc := { params := [p0], init := i14, results := [.tmp p2], body := (.seq (.reg [⟨(some p2), none, .mov (.c (.int .i64 0))⟩] []) (.kill [p2] (.seq (.seq (.reg [⟨(some p3), none, .mov (.t p0)⟩, ⟨(some p4), none, .bin .eql (.t p3) (.c (.int .u32 0))⟩] []) (.kill [p3] (.cond (.t p4) (.kill [p4] (.seq (.reg [⟨(some p2), none, .mov (.c (.int .i64 32))⟩] []) .ret)) .skip))) (.kill [p4] (.seq (.reg [⟨(some p5), none, .mov (.t p0)⟩, ⟨(some p6), none, .mov (.t p0)⟩, ⟨(some p7), none, .un .neg (.t p6)⟩, ⟨(some p8), none, .bin .and (.t p5) (.t p7)⟩, ⟨(some p9), none, .bin .mul (.t p8) (.c (.int .u32 125613361))⟩, ⟨(some p10), none, .bin .shr (.t p9) (.c (.int .u64 27))⟩, ⟨(some p11), none, .iad 32 1 (.c (.pointer (some ⟨1, 0, none⟩))) (.t p10)⟩, ⟨(some p12), none, .ld none (.t p11)⟩, ⟨(some p13), none, .cvt .i64 (.t p12)⟩, ⟨(some p2), none, .mov (.t p13)⟩] []) .ret))))) }
def a84 : AFunc := { params := [p0], init := i14, results := [.tmp p2], body := (.seq (.reg [⟨(some p2), none, .mov (.c (.int .i64 0))⟩] []) (.kill [p2] (.seq (.seq (.reg [⟨(some p3), none, .mov (.t p0)⟩, ⟨(some p4), none, .bin .eql (.t p3) (.c (.int .u64 0))⟩] []) (.kill [p3] (.cond (.t p4) (.kill [p4] (.seq (.reg [⟨(some p2), none, .mov (.c (.int .i64 64))⟩] []) .ret)) .skip))) (.kill [p4] (.seq (.reg [⟨(some p5), none, .mov (.t p0)⟩, ⟨(some p6), none, .mov (.t p0)⟩, ⟨(some p7), none, .un .neg (.t p6)⟩, ⟨(some p8), none, .bin .and (.t p5) (.t p7)⟩, ⟨(some p9), none, .bin .mul (.t p8) (.c (.int .u64 285870213051353865))⟩, ⟨(some p10), none, .bin .shr (.t p9) (.c (.int .u64 58))⟩, ⟨(some p11), none, .iad 64 1 (.c (.pointer (some ⟨2, 0, none⟩))) (.t p10)⟩, ⟨(some p12), none, .ld none (.t p11)⟩, ⟨(some p13), none, .cvt .i64 (.t p12)⟩, ⟨(some p2), none, .mov (.t p13)⟩] []) .ret))))) }
def a85 : AFunc := { params := [p0, p1], init := i8, results := [], body := (.seq (.reg [⟨(some p2), none, .box (.t p0)⟩] []) (.kill [p0] (.seq (.reg [⟨(some p3), none, .zero [(.slice none 0 0)]⟩] []) (.seq (.reg [⟨(some p4), none, .zero [.nilFunc]⟩] []) (.seq (.reg [⟨(some p5), none, .clos (.func 86) [] [(.t p3), (.t p1), (.t p2), (.t p4)]⟩, ⟨none, none, .st 1 (.t p4) (.t p5)⟩] []) (.kill [p1, p2, p3, p5] (.reg [⟨(some p6), none, .ld none (.t p4)⟩, ⟨(some p7), none, .call (.t p6) []⟩] []))))))) }
def a86 : AFunc := { params := [p0, p1, p2, p3], init := i33, results := [.tmp p4], body := (.seq (.reg [⟨(some p4), none, .mov (.c (.bool false))⟩] []) (.kill [p4] (.seq (.seq (.reg [⟨(some p6), none, .ld none (.t p0)⟩, ⟨(some p7), none, .len 1 (.t p6)⟩, ⟨(some p8), none, .ld none (.t p1)⟩, ⟨(some p9), none, .bin .eql (.t p7) (.t p8)⟩] []) (.kill [p6, p7, p8] (.cond (.t p9) (.kill [p9] (.seq (.reg [⟨(some p10), none, .ld none (.t p2)⟩, ⟨(some p11), none, .ld none (.t p0)⟩, ⟨(some p12), none, .call (.t p10) [(.t p11)]⟩, ⟨(some p4), none, .mov (.t p12)⟩] []) .ret)) .skip))) (.kill [p9] (.seq (.seq (.reg [⟨(some p13), none, .ld none (.t p1)⟩, ⟨(some p14), none, .mov (.c (.int .i64 0))⟩] []) (.kill [p1] (.block 0 (.loop (.seq (.reg [⟨(some p15), none, .bin .lss (.t p14) (.t p13)⟩] []) (.seq (.cond (.t p15) .skip (.exit 0)) (.kill [p15] (.seq (.block 1 (.seq (.reg [⟨(some p16), none, .mov (.t p14)⟩, ⟨(some p5), none, .mov (.t p16)⟩] []) (.kill [p16] (.seq (.seq (.reg [⟨(some p17), none, .ld none (.t p0)⟩, ⟨(some p18), none, .mov (.t p5)⟩, ⟨(some p19), none, .call (.c (.func (.func 87) #[] #[])) [(.t p17), (.t p18)]⟩] []) (.kill [p17, p18] (.cond (.t p19) (.exit 1) .skip))) (.kill [p19] (.seq (.reg [⟨(some p20), none, .ld none (.t p0)⟩, ⟨(some p21), none, .mov (.t p5)⟩, ⟨(some p22), none, .bslice 1 1 [(.int .i64 0)] [(0, 1, (.t p21))]⟩, ⟨(some p23), none, .app 1 (.t p20) (.t p22)⟩, ⟨none, none, .st 1 (.t p0) (.t p23)⟩] []) (.kill [p5, p20, p21, p22, p23] (.seq (.seq (.reg [⟨(some p24), none, .ld none (.t p3)⟩, ⟨(some p25), none, .call (.t p24) []⟩, ⟨(some p26), none, .un .not (.t p25)⟩] []) (.kill [p24, p25] (.cond (.t p26) (.kill [p26] (.seq (.reg [⟨(some p4), none, .mov (.c (.bool false))⟩] []) .ret)) .skip))) (.kill [p26] (.reg [⟨(some p27), none, .ld none (.t p0)⟩, ⟨(some p28), none, .ld none (.t p0)⟩, ⟨(some p29), none, .len 1 (.t p28)⟩, ⟨(some p30), none, .bin .sub (.t p29) (.c (.int .i64 1))⟩, ⟨(some p31), none, .slsl 1 (.t p27) none (some (.t p30)) none⟩, ⟨none, none, .st 1 (.t p0) (.t p31)⟩] [])))))))))) (.kill [p27, p28, p29, p30, p31] (.reg [⟨(some p32), none, .bin .add (.t p14) (.c (.int .i64 1))⟩, ⟨(some p14), none, .mov (.t p32)⟩] [])))))))))) (.kill [p0, p3, p13, p14, p15, p19] (.seq (.reg [⟨(some p4), none, .mov (.c (.bool true))⟩] []) .ret))))))) }
def a87 : AFunc := { params := [p0, p1], init := i9, results := [.tmp p4], body := (.seq (.reg [⟨(some p4), none, .mov (.c (.bool false))⟩] []) (.kill [p4] (.seq (.reg [⟨(some p5), none, .mov (.t p0)⟩, ⟨(some p6), none, .mov (.t p1)⟩, ⟨(some p7), none, .call (.c (.func (.func 88) #[] #[])) [(.t p5), (.t p6)]⟩, ⟨(some p8), none, .bin .geq (.t p7) (.c (.int .i64 0))⟩, ⟨(some p4), none, .mov (.t p8)⟩] []) .ret))) }
def a88 : AFunc := { params := [p0, p1], init := i19, results := [.tmp p4], body := (.seq (.reg [⟨(some p4), none, .mov (.c (.int .i64 0))⟩] []) (.kill [p4] (.seq (.seq (.reg [⟨(some p6), none, .mov (.t p0)⟩, ⟨(some p7), none, .len 1 (.t p6)⟩, ⟨(some p8), none, .mov (.c (.int .i64 0))⟩] []) (.kill [p6] (.block 0 (.loop (.seq (.reg [⟨(some p9), none, .bin .lss (.t p8) (.t p7)⟩] []) (.seq (.cond (.t p9) .skip (.exit 0)) (.kill [p9] (.seq (.block 1 (.seq (.reg [⟨(some p10), none, .mov (.t p8)⟩, ⟨(some p5), none, .mov (.t p10)⟩] []) (.kill [p10] (.seq (.reg [⟨(some p11), none, .mov (.t p1)⟩, ⟨(some p12), none, .mov (.t p0)⟩, ⟨(some p13), none, .mov (.t p5)⟩, ⟨(some p14), none, .ias 1 (.t p12) (.t p13)⟩, ⟨(some p15), none, .ld none (.t p14)⟩, ⟨(some p16), none, .bin .eql (.t p11) (.t p15)⟩] []) (.kill [p11, p12, p13, p14, p15] (.cond (.t p16) (.kill [p16] (.seq (.reg [⟨(some p17), none, .mov (.t p5)⟩, ⟨(some p4), none, .mov (.t p17)⟩] []) .ret)) .skip)))))) (.kill [p16] (.reg [⟨(some p18), none, .bin .add (.t p8) (.c (.int .i64 1))⟩, ⟨(some p8), none, .mov (.t p18)⟩] [])))))))))) (.kill [p0, p1, p7, p8, p9] (.seq (.reg [⟨(some p4), none, .mov (.c (.int .i64 (-1)))⟩] []) .ret))))) }
def tbl : Tr AFunc := (.nd none (.nd none (.nd none (.nd none (.nd none (.nd (some a31) (.nd (some a63) .lf .lf) .lf) (.nd none (.nd (some a79) .lf .lf) .lf)) (.nd none (.nd none (.nd (some a71) .lf .lf) .lf) (.nd (some a55) (.nd (some a87) .lf .lf) .lf))) (.nd none (.nd (some a19) (.nd (some a35) (.nd (some a67) .lf .lf) .lf) (.nd (some a51) (.nd (some a83) .lf .lf) .lf)) (.nd none (.nd (some a43) (.nd (some a75) .lf .lf) .lf) (.nd none .lf .lf)))) (.nd none (.nd none (.nd none (.nd none (.nd none .lf .lf) .lf) (.nd (some a49) (.nd (some a81) .lf .lf) .lf)) (.nd (some a25) (.nd (some a41) (.nd (some a73) .lf .lf) .lf) (.nd (some a57) .lf .lf))) (.nd none (.nd none (.nd (some a37) (.nd none .lf .lf) .lf) (.nd (some a53) (.nd (some a85) .lf .lf) .lf)) (.nd none (.nd (some a45) (.nd (some a77) .lf .lf) .lf) (.nd (some a61) .lf .lf))))) (.nd none (.nd none (.nd none (.nd (some a16) (.nd none (.nd (some a64) .lf .lf) .lf) (.nd (some a48) (.nd (some a80) .lf .lf) .lf)) (.nd (some a24) (.nd none (.nd (some a72) .lf .lf) .lf) (.nd (some a56) (.nd (some a88) .lf .lf) .lf))) (.nd none (.nd (some a20) (.nd none (.nd (some a68) .lf .lf) .lf) (.nd (some a52) (.nd (some a84) .lf .lf) .lf)) (.nd (some a28) (.nd (some a44) (.nd (some a76) .lf .lf) .lf) (.nd none .lf .lf)))) (.nd none (.nd none (.nd (some a18) (.nd none (.nd (some a66) .lf .lf) .lf) (.nd (some a50) (.nd (some a82) .lf .lf) .lf)) (.nd none (.nd none (.nd (some a74) .lf .lf) .lf) (.nd (some a58) .lf .lf))) (.nd (some a14) (.nd (some a22) (.nd (some a38) (.nd (some a70) .lf .lf) .lf) (.nd (some a54) (.nd (some a86) .lf .lf) .lf)) (.nd none (.nd (some a46) (.nd (some a78) .lf .lf) (.nd none .lf .lf)) (.nd (some a62) .lf .lf))))))
end
end Go.Ab.Dues

namespace Go.Ab.Dues
set_option maxRecDepth 1000000
def tab64 : List Int := [0, 1, 56, 2, 57, 49, 28, 3, 61, 58, 42, 50, 38, 29, 17, 4, 62, 47, 59, 36, 45, 43, 51, 22, 53, 39, 33, 30, 24, 18, 12, 5, 63, 55, 48, 27, 60, 41, 37, 16, 46, 35, 44, 21, 52, 32, 23, 11, 54, 26, 40, 15, 34, 20, 31, 10, 25, 14, 19, 9, 13, 8, 7, 6]
def tab32 : List Int := [0, 1, 28, 2, 29, 14, 24, 3, 30, 22, 20, 15, 25, 17, 4, 8, 31, 27, 13, 23, 21, 19, 16, 7, 26, 12, 18, 6, 11, 5, 10, 9]
def globs : List (Nat × List (IntKind × Int)) := [(2, tab64.map fun n => (.u8, n)), (0, [(.i64, 0), (.i64, 1)])]
noncomputable section
def cfg0 : Cfg := { fn := fun f => Tr.get tbl f, pick := fun _ => 0, glob := globs }
theorem fit : Tr.allB (fitB Go.Proofs.Tryd.prog) tbl (fun n => n) = true := by decide +kernel
theorem tab0 : TabOK Go.Proofs.Tryd.prog cfg0 := tabOK (t := tbl) (fun _ _ h => h) fit
theorem mixed : Go.Proofs.Tryd.prog.follows .mixedOrders = true := by decide +kernel
end
end Go.Ab.Dues

namespace Go.Ab.Dues
set_option maxRecDepth 1000000
theorem awake_runs : (match run true cfg0 600 (.call 24 [] ⟨baseG cfg0.glob, .lf, 0, 0⟩) with
  | some (_, .nd (.bool true) _ _, _) => true
  | _ => false) = true := by decide +kernel
theorem awake_closed : ClosedAns cfg0 24 (.bool true) := by
  have h := awake_runs
  split at h
  · rename_i e l r h' he; exact ⟨600, e, l, r, h', he⟩
  · cases h
end Go.Ab.Dues

namespace Go.Ab.Dues
open Go.Ab.V Go.Proofs Go.Proofs.YtdjpaifhmiocnaaDoor
set_option maxRecDepth 1000000
noncomputable section
def cfg : Cfg := withOrc cfg0 24 (.bool true)
end
theorem no_orc (f : Nat) (h : f ≠ 24) (l : List Value) (b : Nat → Option (List Value)) : cfg.orc f l b = none := orc_no rfl h l b
abbrev laidL : List (String × DataW Unit) := [("math/bits.deBruijn32tab", Rows.laid_math_bits_deBruijn32tab), ("math/bits.deBruijn64tab", Rows.laid_math_bits_deBruijn64tab), ("careen/dues.none", Rows.laid_careen_dues_none)]
noncomputable def laidWorld (os : Os) : World :=
  let w0 := World.holding Tryd.prog os ⟨#[], #[], []⟩
  { w0 with heap := ((w0.heap.modify 0 fun
      | .cells _ t frozen => .cells (rowI [(.i64, 0), (.i64, 1)]).toArray t frozen
      | o => o).modify 1 fun
      | .cells _ t frozen => .cells (rowI (tab32.map fun n => (.u8, n))).toArray t frozen
      | o => o).modify 2 fun
      | .cells _ t frozen => .cells (rowI (tab64.map fun n => (.u8, n))).toArray t frozen
      | o => o }
theorem laidWorld_met (os : Os) (args : Array Value) : laidMetH Tryd.prog laidL ((laidWorld os).forCall (fun _ _ => 0) ⟨#[], args, []⟩).memory := by
  show laidMet Tryd.prog laidL _
  exact laidMet_of_run' 8 (by kernel_rfl) (by kernel_rfl)
theorem glob_of_laid {W : World} (h : laidMetH Tryd.prog laidL W) : GlobOK cfg (baseW W) := by
  have h' : laidMet Tryd.prog laidL W := h
  obtain ⟨ps, hv, _⟩ := h'
  obtain ⟨_, q1, hv⟩ := laid_base (t := 117) hv (show Tryd.prog.globalNamed "math/bits.deBruijn32tab" = some 1 by kernel_rfl) (by kernel_rfl) (row := tab32.map fun n => (.u8, n)) (fun fuel cs p ht => by
    have := laid_arr (zs := tab32) Tryd.underlying117 (k := .u8) (by kernel_rfl) (by kernel_rfl) (by kernel_rfl) ht
    rw [this]; simp [rowI])
  obtain ⟨h64, q2, hv⟩ := laid_base (t := 118) hv (show Tryd.prog.globalNamed "math/bits.deBruijn64tab" = some 2 by kernel_rfl) (by kernel_rfl) (row := tab64.map fun n => (.u8, n)) (fun fuel cs p ht => by
    have := laid_arr (zs := tab64) Tryd.underlying118 (k := .u8) (by kernel_rfl) (by kernel_rfl) (by kernel_rfl) ht
    rw [this]; simp [rowI])
  obtain ⟨h0, q3, hv⟩ := laid_base (t := 80) hv (show Tryd.prog.globalNamed "careen/dues.none" = some 0 by kernel_rfl) (by kernel_rfl) (row := [(.i64, 0), (.i64, 1)]) (fun fuel cs p ht => by
    have := laid_st2 Tryd.underlying80 (k := .i64) (by kernel_rfl) (by kernel_rfl) (by kernel_rfl) (by kernel_rfl) rfl rfl (by kernel_rfl) ht
    rw [this]; simp [rowI])
  intro e he
  have he : e ∈ globs := he
  rcases List.mem_cons.1 he with rfl | he
  · exact h64
  · rcases List.mem_cons.1 he with rfl | he
    · exact h0
    · cases he
end Go.Ab.Dues

namespace Go.Ab.Dues
set_option maxRecDepth 100000
open Go.Ab.V
end Go.Ab.Dues

namespace Go.Ab.Dues
open Go.Ab.V
set_option maxRecDepth 100000
end Go.Ab.Dues

namespace Go.Ab.Dues
open Go.Ab.V
set_option maxRecDepth 100000
/-- The elements of a set, rising. -/
def bitsN (s : Nat) : List Nat := (List.range 10).filter fun i => s.testBit i
end Go.Ab.Dues

namespace Go.Ab.Dues
open Go.Ab.V
set_option maxRecDepth 100000
theorem sl1_take (l : List Int) (m : Nat) : sl1 (l.take m) = .p (.sl 1 (min l.length m) ((l.take (min l.length m)).map pi)) := by
  have : l.take (min l.length m) = l.take m := by
    rcases Nat.le_total l.length m with h | h
    · rw [Nat.min_eq_left h, List.take_of_length_le h, List.take_length]
    · rw [Nat.min_eq_right h]
  rw [sl1, this, List.length_take, Nat.min_comm]
theorem few_ok (l : List Int) (m : Nat) (hm : m < 1000) (hl : l.length ≤ 9223372036854775807) : VCall cfg 43 [sl1 l, vi m] [] [] (sl1 (l.take m)) [] := by
  (refine VCall.mk (fn := a43) rfl rfl rfl ?_; simp only [a43, inV, mkB, nmsL, PT.set])
  (repeat (first | refine VC.seq ?_ | refine VC.block ?_ | refine VC.kill ?_ | refine VC.skip ?_ | refine VC.exit ?_ | refine VC.regA ?_ | refine VC.condT ?_ | refine VC.condF ?_))
  refine VC.ret (Fin.frzA p13 (Fin.A ?_))
  exact sl1_take l m
structure Can where
  up : List Int
  cost : List Int
  ships : List Int
/-- A canal as a value. -/
def canV (c : Can) : VV := .agg [sl1 c.up, sl1 c.cost, sl1 c.ships]
set_option maxHeartbeats 2000000 in
theorem given_ok (c : Can) (h1 : c.up.length ≤ 11) (h2 : c.cost.length ≤ 11) (h3 : c.ships.length ≤ 8) : VCall cfg 16 [canV c] [] [] (canV c) [] := by
  have k1 := few_ok c.up 11 (by decide) (by omega)
  have k2 := few_ok c.cost 11 (by decide) (by omega)
  have k3 := few_ok c.ships 8 (by decide) (by omega)
  rw [List.take_of_length_le (by omega)] at k1 k2 k3
  unfold canV
  (refine VCall.mk (fn := a16) rfl rfl rfl ?_; simp only [a16, inV, mkB, nmsL, PT.set])
  (repeat (first | refine VC.seq ?_ | refine VC.block ?_ | refine VC.kill ?_ | refine VC.skip ?_ | refine VC.exit ?_ | refine VC.regA ?_ | refine VC.condT ?_ | refine VC.condF ?_))
  refine VC.planP [p1] rfl ?_
  (apply VPl.run; · (exact vPl))
  refine VPl.call (no_orc _ (by decide)) k1 rfl rfl rfl rfl ?_
  (apply VPl.run; · (exact vPl))
  refine VPl.call (no_orc _ (by decide)) k2 rfl rfl rfl rfl ?_
  (apply VPl.run; · (exact vPl))
  refine VPl.call (no_orc _ (by decide)) k3 rfl rfl rfl rfl ?_
  (apply VPl.run; · (exact vPl))
  refine VPl.stop (by decide) ?_
  refine VO.endA ?_
  (repeat (first | refine VC.seq ?_ | refine VC.block ?_ | refine VC.kill ?_ | refine VC.skip ?_ | refine VC.exit ?_ | refine VC.regA ?_ | refine VC.condT ?_ | refine VC.condF ?_))
  exact VC.ret (Fin.A rfl)
end Go.Ab.Dues

namespace Go.Ab.Dues
open Go.Ab.V
set_option maxRecDepth 100000
/-- The place of the first one that is meant. -/
def fnd (P : Int → Bool) (l : List Int) : Int := if l.any P = true then (l.findIdx P : Nat) else -1
theorem fnd_hit {P : Int → Bool} {l : List Int} {i : Nat} (h : i < l.length) (hv : P l[i] = true) (hn : ∀ k (hk : k < i), P (l[k]'(by omega)) = false) : fnd P l = i := by
  unfold fnd
  rw [if_pos (List.any_eq_true.2 ⟨_, List.getElem_mem h, hv⟩)]
  congr 1
  rw [List.findIdx_eq h]
  exact ⟨hv, fun j hj => hn j hj⟩
theorem fnd_pos (P : Int → Bool) (l : List Int) : decide (fnd P l ≥ 0) = l.any P := by
  unfold fnd
  cases h : l.any P with
  | true => rw [if_pos rfl]; simp
  | false => rw [if_neg (by simp)]; rfl
set_option maxHeartbeats 4000000 in
theorem IndexFunc_ok (l : List Int) (k : Nat) (hk : k ≠ 24) (pc : List PV) (P : Int → Bool) (hl : l.length ≤ 1000000) (hP : ∀ x ∈ l, VCall cfg k (vi x :: pc.map .p) [] [] (vb (P x)) []) : VCall cfg 82 [sl1 l, .clos k [] (pc.map .p)] [] [] (vi (fnd P l)) [] := by
  (refine VCall.mk (fn := a82) rfl rfl rfl ?_; simp only [a82, inV, mkB, nmsL, PT.set])
  (repeat (first | refine VC.seq ?_ | refine VC.block ?_ | refine VC.kill ?_ | refine VC.skip ?_ | refine VC.exit ?_ | refine VC.regA ?_ | refine VC.condT ?_ | refine VC.condF ?_))
  refine VC.loopG (fun (i : Nat) => ⟨inV [p0, p1, p7, p8] [sl1 l, .clos k [] (pc.map .p), vi l.length, vi i] .lf, .lf, [], none⟩) (fun n i => n = l.length - i ∧ i ≤ l.length ∧ ∀ k (hk : k < i) (hk' : k < l.length), P l[k] = false) (x := 0) ?_ ⟨rfl, by omega, fun k hk => absurd hk (Nat.not_lt_zero k)⟩ ?_
  · exact gW
  rintro n i ⟨hn, hi, ho⟩
  simp only [inV, PT.set]
  (repeat (first | refine VC.seq ?_ | refine VC.block ?_ | refine VC.kill ?_ | refine VC.skip ?_ | refine VC.exit ?_ | refine VC.regA ?_ | refine VC.condT ?_ | refine VC.condF ?_))
  refine VC.condA ?_ ?_ <;> intro h <;> (simp only [decide_eq_true_eq, decide_eq_false_iff_not, bne_iff_ne, ne_eq, bne_eq_false_iff_eq, beq_iff_eq, beq_eq_false_iff_ne, Bool.not_eq_true', Bool.not_eq_false', Bool.and_eq_true, Bool.or_eq_true, Int.natCast_inj] at h)
  · have h : i < l.length := by omega
    have kx := hP _ (List.getElem_mem h)
    (repeat (first | refine VC.seq ?_ | refine VC.block ?_ | refine VC.kill ?_ | refine VC.skip ?_ | refine VC.exit ?_ | refine VC.regA ?_ | refine VC.condT ?_ | refine VC.condF ?_))
    refine VC.regCA ?_
    refine VO.moreA ?_
    refine VO.call0A (no_orc k hk) kx ?_
    refine VO.endA ?_
    (repeat (first | refine VC.seq ?_ | refine VC.block ?_ | refine VC.kill ?_ | refine VC.skip ?_ | refine VC.exit ?_ | refine VC.regA ?_ | refine VC.condT ?_ | refine VC.condF ?_))
    cases hp : P l[i] with
    | true =>
      (repeat (first | refine VC.seq ?_ | refine VC.block ?_ | refine VC.kill ?_ | refine VC.skip ?_ | refine VC.exit ?_ | refine VC.regA ?_ | refine VC.condT ?_ | refine VC.condF ?_))
      rw [fnd_hit h hp (fun k hk => ho k hk (by omega))]
      exact VC.ret (Fin.A rfl)
    | false =>
      (repeat (first | refine VC.seq ?_ | refine VC.block ?_ | refine VC.kill ?_ | refine VC.skip ?_ | refine VC.exit ?_ | refine VC.regA ?_ | refine VC.condT ?_ | refine VC.condF ?_))
      refine ⟨_, i + 1, ?_, ⟨rfl, by omega, fun k hk hk' => ?_⟩, ?_⟩
      · omega
      · rcases Nat.lt_or_ge k i with h1 | h1
        · exact ho k h1 hk'
        · have : k = i := by omega
          subst this; exact hp
      · exact gW
  · have h : i = l.length := by omega
    have : fnd P l = -1 := by
      unfold fnd
      rw [if_neg]
      intro hm
      obtain ⟨x, hx, hp⟩ := List.any_eq_true.1 hm
      obtain ⟨k, hk, e⟩ := List.mem_iff_getElem.1 hx
      have := ho k (by omega) hk
      rw [e, hp] at this; cases this
    rw [this]
    (repeat (first | refine VC.seq ?_ | refine VC.block ?_ | refine VC.kill ?_ | refine VC.skip ?_ | refine VC.exit ?_ | refine VC.regA ?_ | refine VC.condT ?_ | refine VC.condF ?_))
    exact VC.ret (Fin.A rfl)
theorem ContainsFunc_ok (l : List Int) (k : Nat) (hk : k ≠ 24) (pc : List PV) (P : Int → Bool) (hl : l.length ≤ 1000000) (hP : ∀ x ∈ l, VCall cfg k (vi x :: pc.map .p) [] [] (vb (P x)) []) : VCall cfg 75 [sl1 l, .clos k [] (pc.map .p)] [] [] (vb (l.any P)) [] := by
  have k1 := IndexFunc_ok l k hk pc P hl hP
  rw [← fnd_pos]
  (refine VCall.mk (fn := a75) rfl rfl rfl ?_; simp only [a75, inV, mkB, nmsL, PT.set])
  (repeat (first | refine VC.seq ?_ | refine VC.block ?_ | refine VC.kill ?_ | refine VC.skip ?_ | refine VC.exit ?_ | refine VC.regA ?_ | refine VC.condT ?_ | refine VC.condF ?_))
  (refine VC.regCA ?_; refine VO.moreA ?_; refine VO.call0A (no_orc _ (by decide)) k1 ?_; refine VO.endA ?_; (repeat (first | refine VC.seq ?_ | refine VC.block ?_ | refine VC.kill ?_ | refine VC.skip ?_ | refine VC.exit ?_ | refine VC.regA ?_ | refine VC.condT ?_ | refine VC.condF ?_)))
  exact VC.ret (Fin.A rfl)
theorem chk1_ok (x n : Int) : VCall cfg 76 [vi x, .p (.fp 0 [pi n])] [] [] (vb (decide (x < 0) || decide (x ≥ n))) [] := by
  by_cases h : x < 0
  · (refine VCall.mk (fn := a76) rfl rfl rfl ?_; simp only [a76, inV, mkB, nmsL, PT.set])
    (repeat (first | refine VC.seq ?_ | refine VC.block ?_ | refine VC.kill ?_ | refine VC.skip ?_ | refine VC.exit ?_ | refine VC.regA ?_ | refine VC.condT ?_ | refine VC.condF ?_))
    rw [decide_eq_true h]
    exact VC.ret (Fin.A rfl)
  · (refine VCall.mk (fn := a76) rfl rfl rfl ?_; simp only [a76, inV, mkB, nmsL, PT.set])
    (repeat (first | refine VC.seq ?_ | refine VC.block ?_ | refine VC.kill ?_ | refine VC.skip ?_ | refine VC.exit ?_ | refine VC.regA ?_ | refine VC.condT ?_ | refine VC.condF ?_))
    rw [decide_eq_false h]
    exact VC.ret (Fin.A rfl)
/-- Canals. -/
structure okC (c : Can) : Prop where
  n1 : 1 ≤ c.up.length
  n10 : c.up.length ≤ 10
  cl : c.cost.length = c.up.length
  s7 : c.ships.length ≤ 7
  up0 : ∀ h : 0 < c.up.length, c.up[0] = -1
  ups : ∀ i (h : i < c.up.length), 0 < i → 0 ≤ c.up[i] ∧ c.up[i] < i
  cost : ∀ i (h : i < c.cost.length), 0 ≤ c.cost[i] ∧ c.cost[i] ≤ 1000
  ship : ∀ x ∈ c.ships, 0 ≤ x ∧ x < c.up.length
set_option maxHeartbeats 4000000 in
theorem Check_ok (c : Can) (h : okC c) : VCall cfg 50 [canV c] [] [] (vi 0) [] := by
  have h1 := h.n1
  have h2 := h.n10
  have h3 := h.cl
  have h4 := h.s7
  have kc := ContainsFunc_ok c.ships 76 (by decide) [.fp 0 [pi c.up.length]] (fun x => decide (x < 0) || decide (x ≥ c.up.length)) (by omega) fun x _ => chk1_ok x c.up.length
  have hany : (c.ships.any fun x => decide (x < 0) || decide (x ≥ (c.up.length : Int))) = false := by
    rw [List.any_eq_false]
    intro x hx
    have := h.ship x hx
    simp; omega
  rw [hany] at kc
  unfold canV
  (refine VCall.mk (fn := a50) rfl rfl rfl ?_; simp only [a50, inV, mkB, nmsL, PT.set])
  (repeat (first | refine VC.seq ?_ | refine VC.block ?_ | refine VC.kill ?_ | refine VC.skip ?_ | refine VC.exit ?_ | refine VC.regA ?_ | refine VC.condT ?_ | refine VC.condF ?_))
  refine VC.loopG (fun (i : Nat) => ⟨inV [p1, p3, p29, p30, p31] [.op 0 p1 0, .op 0 p3 0, sl1 c.up, vi c.up.length, vi i] .lf, mkB [(p1, .cells [sl1 c.up, sl1 c.cost, sl1 c.ships]), (p3, .cells [vi c.up.length])] .lf, [], none⟩) (fun n i => n = c.up.length - i ∧ i ≤ c.up.length) (x := 0) ?_ ⟨rfl, Nat.zero_le _⟩ ?_
  · exact gW
  rintro n i ⟨hn, hi⟩
  simp only [inV, PT.set, mkB]
  (repeat (first | refine VC.seq ?_ | refine VC.block ?_ | refine VC.kill ?_ | refine VC.skip ?_ | refine VC.exit ?_ | refine VC.regA ?_ | refine VC.condT ?_ | refine VC.condF ?_))
  refine VC.condA ?_ ?_ <;> intro h' <;> (simp only [decide_eq_true_eq, decide_eq_false_iff_not, bne_iff_ne, ne_eq, bne_eq_false_iff_eq, beq_iff_eq, beq_eq_false_iff_ne, Bool.not_eq_true', Bool.not_eq_false', Bool.and_eq_true, Bool.or_eq_true, Int.natCast_inj] at h')
  · have h' : i < c.up.length := by omega
    have h'' : i < c.cost.length := by omega
    have e1 := h.cost i h''
    have e0 : ¬c.cost[i] < 0 := by omega
    have e2 : ¬c.cost[i] > 1000 := by omega
    by_cases hz : i = 0
    · subst hz
      have e3 := h.up0 h'
      (repeat (first | refine VC.seq ?_ | refine VC.block ?_ | refine VC.kill ?_ | refine VC.skip ?_ | refine VC.exit ?_ | refine VC.regA ?_ | refine VC.condT ?_ | refine VC.condF ?_))
      refine ⟨_, 1, ?_, ⟨rfl, by omega⟩, ?_⟩
      · omega
      · exact gW
    · have e3 := h.ups i h' (by omega)
      have e4 : ¬c.up[i] < 0 := by omega
      have e5 : ¬c.up[i] ≥ (i : Int) := by omega
      have e6 : ¬(i : Int) = 0 := by omega
      have e7 : (i : Int) > 0 := by omega
      (repeat (first | refine VC.seq ?_ | refine VC.block ?_ | refine VC.kill ?_ | refine VC.skip ?_ | refine VC.exit ?_ | refine VC.regA ?_ | refine VC.condT ?_ | refine VC.condF ?_))
      refine ⟨_, i + 1, ?_, ⟨rfl, by omega⟩, ?_⟩
      · omega
      · exact gW
  · (repeat (first | refine VC.seq ?_ | refine VC.block ?_ | refine VC.kill ?_ | refine VC.skip ?_ | refine VC.exit ?_ | refine VC.regA ?_ | refine VC.condT ?_ | refine VC.condF ?_))
    refine VC.regCA ?_
    refine VO.moreA ?_
    refine VO.frzA p3 ?_
    refine VO.call0A (no_orc 75 (by decide)) kc ?_
    refine VO.endA ?_
    (repeat (first | refine VC.seq ?_ | refine VC.block ?_ | refine VC.kill ?_ | refine VC.skip ?_ | refine VC.exit ?_ | refine VC.regA ?_ | refine VC.condT ?_ | refine VC.condF ?_))
    exact VC.ret (Fin.A rfl)
end Go.Ab.Dues

namespace Go.Ab.Dues
open Go.Ab.V
set_option maxRecDepth 100000
/-! ### What is no canal -/
set_option maxHeartbeats 8000000 in
theorem Check_no (c : Can) (hno : ¬okC c) (hs : c.ships.length ≤ 1000000) (hu : c.up.length ≤ 1000000) (hcc : c.cost.length ≤ 1000000) : VCall cfg 50 [canV c] [] [] (vi 100) [] := by
  have kc := ContainsFunc_ok c.ships 76 (by decide) [.fp 0 [pi c.up.length]] (fun x => decide (x < 0) || decide (x ≥ c.up.length)) (by omega) fun x _ => chk1_ok x c.up.length
  unfold canV
  (refine VCall.mk (fn := a50) rfl rfl rfl ?_; simp only [a50, inV, mkB, nmsL, PT.set])
  (repeat (first | refine VC.seq ?_ | refine VC.block ?_ | refine VC.kill ?_ | refine VC.skip ?_ | refine VC.exit ?_ | refine VC.regA ?_ | refine VC.condT ?_ | refine VC.condF ?_))
  by_cases g1 : c.up.length < 1
  · have g1' : ((c.up.length : Nat) : Int) < 1 := by omega
    ((try (apply VC.regU; · (exact vF (decide_eq_true g1')))); (repeat (first | refine VC.seq ?_ | refine VC.block ?_ | refine VC.kill ?_ | refine VC.skip ?_ | refine VC.exit ?_ | refine VC.regA ?_ | refine VC.condT ?_ | refine VC.condF ?_)))
    exact VC.ret (Fin.A rfl)
  have g1' : ¬((c.up.length : Nat) : Int) < 1 := by omega
  by_cases g2 : c.up.length > 10
  · have g2' : ((c.up.length : Nat) : Int) > 10 := by omega
    ((try (apply VC.regU; · (exact vF (And.intro (decide_eq_false g1') (decide_eq_true g2'))))); (repeat (first | refine VC.seq ?_ | refine VC.block ?_ | refine VC.kill ?_ | refine VC.skip ?_ | refine VC.exit ?_ | refine VC.regA ?_ | refine VC.condT ?_ | refine VC.condF ?_)))
    exact VC.ret (Fin.A rfl)
  have g2' : ¬((c.up.length : Nat) : Int) > 10 := by omega
  by_cases g3 : c.cost.length = c.up.length
  rotate_left
  · have g3' : ¬((c.cost.length : Nat) : Int) = (c.up.length : Int) := by omega
    ((try (apply VC.regU; · (exact vF (And.intro (decide_eq_false g1') (And.intro (decide_eq_false g2') (decide_eq_false g3')))))); (repeat (first | refine VC.seq ?_ | refine VC.block ?_ | refine VC.kill ?_ | refine VC.skip ?_ | refine VC.exit ?_ | refine VC.regA ?_ | refine VC.condT ?_ | refine VC.condF ?_)))
    exact VC.ret (Fin.A rfl)
  by_cases g4 : c.ships.length > 7
  · have g4' : ((c.ships.length : Nat) : Int) > 7 := by omega
    ((try (apply VC.regU; · (exact vF (And.intro g3 (And.intro (decide_eq_false g1') (And.intro (decide_eq_false g2') (decide_eq_true g4'))))))); (repeat (first | refine VC.seq ?_ | refine VC.block ?_ | refine VC.kill ?_ | refine VC.skip ?_ | refine VC.exit ?_ | refine VC.regA ?_ | refine VC.condT ?_ | refine VC.condF ?_)))
    exact VC.ret (Fin.A rfl)
  have g4' : ¬((c.ships.length : Nat) : Int) > 7 := by omega
  ((try (apply VC.regU; · (exact vF (And.intro g3 (And.intro (decide_eq_false g1') (And.intro (decide_eq_false g2') (decide_eq_false g4'))))))); (repeat (first | refine VC.seq ?_ | refine VC.block ?_ | refine VC.kill ?_ | refine VC.skip ?_ | refine VC.exit ?_ | refine VC.regA ?_ | refine VC.condT ?_ | refine VC.condF ?_)))
  refine VC.loopG (fun (i : Nat) => ⟨inV [p1, p3, p29, p30, p31] [.op 0 p1 0, .op 0 p3 0, sl1 c.up, vi c.up.length, vi i] .lf, mkB [(p1, .cells [sl1 c.up, sl1 c.cost, sl1 c.ships]), (p3, .cells [vi c.up.length])] .lf, [], none⟩) (fun n i => n = c.up.length - i ∧ i ≤ c.up.length ∧ ∀ k, k < i → (∀ h : k < c.up.length, (k = 0 → c.up[k] = -1) ∧ (0 < k → 0 ≤ c.up[k] ∧ c.up[k] < k)) ∧ ∀ h : k < c.cost.length, 0 ≤ c.cost[k] ∧ c.cost[k] ≤ 1000) (x := 0) ?_ ⟨rfl, Nat.zero_le _, fun k hk => absurd hk (Nat.not_lt_zero k)⟩ ?_
  · (apply Go.Ab.V.G.weak; constructor <;> simp (config := {decide := true}) only [PT.Le, inV, mkB, PT.set, VSt.kill, VSt.adopt, VSt.alloc, PT.filt, PT.map, List.map_cons, List.map_nil, noref, norefB, deadB, deadV, nos, nm, nmL, nmB, nmE, Pa.eqb, cond_true, cond_false, Bool.not_true, Bool.not_false, Bool.and_true, Bool.true_and, nmL_vi, flV_len, flP_len, flV_nm, flV_ok, flV_pv, flP_map, drop_flP, drop_flV, putC_flV, eqV2, eqV3, bneT, bneF, decide_true, decide_false, frzL_vi, frzL_flV, nmE_ag, nmE_at, frzE_ag, frzE_at, ofAg_len, ofAt_len, atL_vi, nmL_map_p, frzL_map_p, okL_p, toPVs_p, repsZ, nmL_reps, putC_vi, get_flV0, get_flV1, Int.toNat_zero, Int.toNat_one, Int.reduceToNat, eqV_slice, eqV_ptr, eqV_func, nilS, nilP, nilF, nmL_append, true_or, or_true, and_self, true_and, and_true, Option.some.injEq, reduceCtorEq, false_or, or_false, VV.p.injEq, PV.at.injEq, Value.int.injEq, sl1, vi, bl1, vb, nilV, sl1, g3])
    (all_goals first | rfl | omega | exact ⟨rfl, by omega⟩)
  rintro n i ⟨hn, hi, hall⟩
  simp only [inV, PT.set, mkB]
  (repeat (first | refine VC.seq ?_ | refine VC.block ?_ | refine VC.kill ?_ | refine VC.skip ?_ | refine VC.exit ?_ | refine VC.regA ?_ | refine VC.condT ?_ | refine VC.condF ?_))
  refine VC.condA ?_ ?_ <;> intro h' <;> (simp only [decide_eq_true_eq, decide_eq_false_iff_not, bne_iff_ne, ne_eq, bne_eq_false_iff_eq, beq_iff_eq, beq_eq_false_iff_ne, Bool.not_eq_true', Bool.not_eq_false', Bool.and_eq_true, Bool.or_eq_true, Int.natCast_inj] at h')
  · have h' : i < c.up.length := by omega
    have h'' : i < c.cost.length := by omega
    by_cases u : (i = 0 → c.up[i] = -1) ∧ (0 < i → 0 ≤ c.up[i] ∧ c.up[i] < i)
    · have hz : (i = 0 ∧ c.up[i] = -1) ∨ (¬(i : Int) = 0 ∧ (i : Int) > 0 ∧ ¬c.up[i] < 0 ∧ ¬c.up[i] ≥ (i : Int)) := by omega
      by_cases e0 : c.cost[i] < 0
      · rcases hz with ⟨z1, z2⟩ | ⟨z1, z2, z3, z4⟩
        · subst z1
          (repeat (first | refine VC.seq ?_ | refine VC.block ?_ | refine VC.kill ?_ | refine VC.skip ?_ | refine VC.exit ?_ | refine VC.regA ?_ | refine VC.condT ?_ | refine VC.condF ?_))
          exact VC.ret (Fin.A rfl)
        · (repeat (first | refine VC.seq ?_ | refine VC.block ?_ | refine VC.kill ?_ | refine VC.skip ?_ | refine VC.exit ?_ | refine VC.regA ?_ | refine VC.condT ?_ | refine VC.condF ?_))
          exact VC.ret (Fin.A rfl)
      · by_cases e2 : c.cost[i] > 1000
        · rcases hz with ⟨z1, z2⟩ | ⟨z1, z2, z3, z4⟩
          · subst z1
            (repeat (first | refine VC.seq ?_ | refine VC.block ?_ | refine VC.kill ?_ | refine VC.skip ?_ | refine VC.exit ?_ | refine VC.regA ?_ | refine VC.condT ?_ | refine VC.condF ?_))
            exact VC.ret (Fin.A rfl)
          · (repeat (first | refine VC.seq ?_ | refine VC.block ?_ | refine VC.kill ?_ | refine VC.skip ?_ | refine VC.exit ?_ | refine VC.regA ?_ | refine VC.condT ?_ | refine VC.condF ?_))
            exact VC.ret (Fin.A rfl)
        · have hall' : ∀ k, k < i + 1 → (∀ h : k < c.up.length, (k = 0 → c.up[k] = -1) ∧ (0 < k → 0 ≤ c.up[k] ∧ c.up[k] < k)) ∧ ∀ h : k < c.cost.length, 0 ≤ c.cost[k] ∧ c.cost[k] ≤ 1000 := fun k hk => by
            rcases Nat.lt_or_ge k i with h1 | h1
            · exact hall k h1
            · have : k = i := by omega
              subst this
              exact ⟨fun _ => u, fun _ => by omega⟩
          clear hall u
          rcases hz with ⟨z1, z2⟩ | ⟨z1, z2, z3, z4⟩
          · subst z1
            (repeat (first | refine VC.seq ?_ | refine VC.block ?_ | refine VC.kill ?_ | refine VC.skip ?_ | refine VC.exit ?_ | refine VC.regA ?_ | refine VC.condT ?_ | refine VC.condF ?_))
            refine ⟨_, 1, ?_, ⟨rfl, by omega, hall'⟩, ?_⟩
            · omega
            · exact gW
          · (repeat (first | refine VC.seq ?_ | refine VC.block ?_ | refine VC.kill ?_ | refine VC.skip ?_ | refine VC.exit ?_ | refine VC.regA ?_ | refine VC.condT ?_ | refine VC.condF ?_))
            refine ⟨_, i + 1, ?_, ⟨rfl, by omega, hall'⟩, ?_⟩
            · omega
            · exact gW
    · have hz : (i = 0 ∧ ¬c.up[i] = -1) ∨ (¬(i : Int) = 0 ∧ (i : Int) > 0 ∧ c.up[i] < 0) ∨ (¬(i : Int) = 0 ∧ (i : Int) > 0 ∧ ¬c.up[i] < 0 ∧ c.up[i] ≥ (i : Int)) := by omega
      clear hall u
      rcases hz with ⟨z1, z2⟩ | ⟨z1, z2, z3⟩ | ⟨z1, z2, z3, z4⟩
      · subst z1
        (repeat (first | refine VC.seq ?_ | refine VC.block ?_ | refine VC.kill ?_ | refine VC.skip ?_ | refine VC.exit ?_ | refine VC.regA ?_ | refine VC.condT ?_ | refine VC.condF ?_))
        exact VC.ret (Fin.A rfl)
      · (repeat (first | refine VC.seq ?_ | refine VC.block ?_ | refine VC.kill ?_ | refine VC.skip ?_ | refine VC.exit ?_ | refine VC.regA ?_ | refine VC.condT ?_ | refine VC.condF ?_))
        exact VC.ret (Fin.A rfl)
      · (repeat (first | refine VC.seq ?_ | refine VC.block ?_ | refine VC.kill ?_ | refine VC.skip ?_ | refine VC.exit ?_ | refine VC.regA ?_ | refine VC.condT ?_ | refine VC.condF ?_))
        exact VC.ret (Fin.A rfl)
  · have h' : i = c.up.length := by omega
    subst h'
    have hany : (c.ships.any fun x => decide (x < 0) || decide (x ≥ (c.up.length : Int))) = true := by
      refine Decidable.byContradiction fun hn => hno ?_
      rw [Bool.not_eq_true, List.any_eq_false] at hn
      refine ⟨by omega, by omega, g3, by omega, fun h => ((hall 0 h).1 h).1 rfl, fun i h h0 => ((hall i h).1 h).2 h0, fun i h => (hall i (by omega)).2 h, fun x hx => ?_⟩
      have := hn x hx
      simp at this; omega
    rw [hany] at kc
    clear hall
    (repeat (first | refine VC.seq ?_ | refine VC.block ?_ | refine VC.kill ?_ | refine VC.skip ?_ | refine VC.exit ?_ | refine VC.regA ?_ | refine VC.condT ?_ | refine VC.condF ?_))
    refine VC.regCA ?_
    refine VO.moreA ?_
    refine VO.frzA p3 ?_
    refine VO.call0A (no_orc 75 (by decide)) kc ?_
    refine VO.endA ?_
    (repeat (first | refine VC.seq ?_ | refine VC.block ?_ | refine VC.kill ?_ | refine VC.skip ?_ | refine VC.exit ?_ | refine VC.regA ?_ | refine VC.condT ?_ | refine VC.condF ?_))
    exact VC.ret (Fin.A rfl)
end Go.Ab.Dues

namespace Go.Ab.Dues
open Go.Ab.V
set_option maxRecDepth 100000
set_option maxHeartbeats 8000000 in
theorem RCheck_any (c : Can) (b : Bool) (hb : b = true ↔ okC c) (hs : c.ships.length ≤ 1000000) (hu : c.up.length ≤ 1000000) (hcc : c.cost.length ≤ 1000000) : VCall cfg 49 [canV c] [] [] (vb b) [] := by
  have no : ¬okC c → b = false := fun h => by cases b with | false => rfl | true => exact absurd (hb.1 rfl) h
  have yes : okC c → b = true := hb.2
  clear hb
  unfold canV
  (refine VCall.mk (fn := a49) rfl rfl rfl ?_; simp only [a49, inV, mkB, nmsL, PT.set])
  (repeat (first | refine VC.seq ?_ | refine VC.block ?_ | refine VC.kill ?_ | refine VC.skip ?_ | refine VC.exit ?_ | refine VC.regA ?_ | refine VC.condT ?_ | refine VC.condF ?_))
  by_cases g1 : c.up.length < 1
  · rw [no fun h => by have := h.n1; omega]
    have g1' : ((c.up.length : Nat) : Int) < 1 := by omega
    ((try (apply VC.regU; · (exact vF (decide_eq_true g1')))); (repeat (first | refine VC.seq ?_ | refine VC.block ?_ | refine VC.kill ?_ | refine VC.skip ?_ | refine VC.exit ?_ | refine VC.regA ?_ | refine VC.condT ?_ | refine VC.condF ?_)))
    exact VC.ret (Fin.A rfl)
  have g1' : ¬((c.up.length : Nat) : Int) < 1 := by omega
  by_cases g2 : c.up.length > 10
  · rw [no fun h => by have := h.n10; omega]
    have g2' : ((c.up.length : Nat) : Int) > 10 := by omega
    ((try (apply VC.regU; · (exact vF (And.intro (decide_eq_false g1') (decide_eq_true g2'))))); (repeat (first | refine VC.seq ?_ | refine VC.block ?_ | refine VC.kill ?_ | refine VC.skip ?_ | refine VC.exit ?_ | refine VC.regA ?_ | refine VC.condT ?_ | refine VC.condF ?_)))
    exact VC.ret (Fin.A rfl)
  have g2' : ¬((c.up.length : Nat) : Int) > 10 := by omega
  by_cases g3 : c.cost.length = c.up.length
  rotate_left
  · rw [no fun h => by have := h.cl; omega]
    have g3' : ¬((c.cost.length : Nat) : Int) = (c.up.length : Int) := by omega
    ((try (apply VC.regU; · (exact vF (And.intro (decide_eq_false g1') (And.intro (decide_eq_false g2') (decide_eq_false g3')))))); (repeat (first | refine VC.seq ?_ | refine VC.block ?_ | refine VC.kill ?_ | refine VC.skip ?_ | refine VC.exit ?_ | refine VC.regA ?_ | refine VC.condT ?_ | refine VC.condF ?_)))
    exact VC.ret (Fin.A rfl)
  have g0 : 0 < c.up.length := by omega
  have gu : c.up[0]? = some c.up[0] := List.getElem?_eq_getElem g0
  by_cases g5 : c.up[0] = -1
  rotate_left
  · rw [no fun h => g5 (h.up0 g0)]
    ((try (apply VC.regU; · (exact vF (And.intro g3 (And.intro gu (And.intro (decide_eq_false g1') (And.intro (decide_eq_false g2') (decide_eq_false g5)))))))); (repeat (first | refine VC.seq ?_ | refine VC.block ?_ | refine VC.kill ?_ | refine VC.skip ?_ | refine VC.exit ?_ | refine VC.regA ?_ | refine VC.condT ?_ | refine VC.condF ?_)))
    exact VC.ret (Fin.A rfl)
  by_cases g4 : c.ships.length > 7
  · rw [no fun h => by have := h.s7; omega]
    have g4' : ((c.ships.length : Nat) : Int) > 7 := by omega
    ((try (apply VC.regU; · (exact vF (And.intro g3 (And.intro gu (And.intro g5 (And.intro (decide_eq_false g1') (And.intro (decide_eq_false g2') (decide_eq_true g4'))))))))); (repeat (first | refine VC.seq ?_ | refine VC.block ?_ | refine VC.kill ?_ | refine VC.skip ?_ | refine VC.exit ?_ | refine VC.regA ?_ | refine VC.condT ?_ | refine VC.condF ?_)))
    exact VC.ret (Fin.A rfl)
  have g4' : ¬((c.ships.length : Nat) : Int) > 7 := by omega
  ((try (apply VC.regU; · (exact vF (And.intro g3 (And.intro gu (And.intro g5 (And.intro (decide_eq_false g1') (And.intro (decide_eq_false g2') (decide_eq_false g4'))))))))); (repeat (first | refine VC.seq ?_ | refine VC.block ?_ | refine VC.kill ?_ | refine VC.skip ?_ | refine VC.exit ?_ | refine VC.regA ?_ | refine VC.condT ?_ | refine VC.condF ?_)))
  refine VC.loopG (fun (i : Nat) => ⟨inV [p1, p3, p4] [.op 0 p1 0, vi c.up.length, vi i] .lf, mkB [(p1, .cells [sl1 c.up, sl1 c.cost, sl1 c.ships])] .lf, [], none⟩) (fun n i => n = c.up.length - i ∧ i ≤ c.up.length ∧ ∀ k, k < i → (∀ h : k < c.up.length, 0 < k → 0 ≤ c.up[k] ∧ c.up[k] < k) ∧ ∀ h : k < c.cost.length, 0 ≤ c.cost[k] ∧ c.cost[k] ≤ 1000) (x := 0) ?_ ⟨rfl, Nat.zero_le _, fun k hk => absurd hk (Nat.not_lt_zero k)⟩ ?_
  · (apply Go.Ab.V.G.weak; constructor <;> simp (config := {decide := true}) only [PT.Le, inV, mkB, PT.set, VSt.kill, VSt.adopt, VSt.alloc, PT.filt, PT.map, List.map_cons, List.map_nil, noref, norefB, deadB, deadV, nos, nm, nmL, nmB, nmE, Pa.eqb, cond_true, cond_false, Bool.not_true, Bool.not_false, Bool.and_true, Bool.true_and, nmL_vi, flV_len, flP_len, flV_nm, flV_ok, flV_pv, flP_map, drop_flP, drop_flV, putC_flV, eqV2, eqV3, bneT, bneF, decide_true, decide_false, frzL_vi, frzL_flV, nmE_ag, nmE_at, frzE_ag, frzE_at, ofAg_len, ofAt_len, atL_vi, nmL_map_p, frzL_map_p, okL_p, toPVs_p, repsZ, nmL_reps, putC_vi, get_flV0, get_flV1, Int.toNat_zero, Int.toNat_one, Int.reduceToNat, eqV_slice, eqV_ptr, eqV_func, nilS, nilP, nilF, nmL_append, true_or, or_true, and_self, true_and, and_true, Option.some.injEq, reduceCtorEq, false_or, or_false, VV.p.injEq, PV.at.injEq, Value.int.injEq, sl1, vi, bl1, vb, nilV, sl1, g3])
    (all_goals first | rfl | omega | exact ⟨rfl, by omega⟩)
  rintro n i ⟨hn, hi, hall⟩
  simp only [inV, PT.set, mkB]
  (repeat (first | refine VC.seq ?_ | refine VC.block ?_ | refine VC.kill ?_ | refine VC.skip ?_ | refine VC.exit ?_ | refine VC.regA ?_ | refine VC.condT ?_ | refine VC.condF ?_))
  refine VC.condA ?_ ?_ <;> intro h' <;> (simp only [decide_eq_true_eq, decide_eq_false_iff_not, bne_iff_ne, ne_eq, bne_eq_false_iff_eq, beq_iff_eq, beq_eq_false_iff_ne, Bool.not_eq_true', Bool.not_eq_false', Bool.and_eq_true, Bool.or_eq_true, Int.natCast_inj] at h')
  · have h' : i < c.up.length := by omega
    have h'' : i < c.cost.length := by omega
    by_cases u : (0 < i → 0 ≤ c.up[i] ∧ c.up[i] < i)
    · have hz : ¬(i : Int) > 0 ∨ ((i : Int) > 0 ∧ ¬c.up[i] < 0 ∧ ¬c.up[i] ≥ (i : Int)) := by omega
      by_cases e0 : c.cost[i] < 0
      · rw [no fun h => by have := h.cost i h''; omega]
        rcases hz with z1 | ⟨z2, z3, z4⟩
        · (repeat (first | refine VC.seq ?_ | refine VC.block ?_ | refine VC.kill ?_ | refine VC.skip ?_ | refine VC.exit ?_ | refine VC.regA ?_ | refine VC.condT ?_ | refine VC.condF ?_))
          exact VC.ret (Fin.A rfl)
        · (repeat (first | refine VC.seq ?_ | refine VC.block ?_ | refine VC.kill ?_ | refine VC.skip ?_ | refine VC.exit ?_ | refine VC.regA ?_ | refine VC.condT ?_ | refine VC.condF ?_))
          exact VC.ret (Fin.A rfl)
      · by_cases e2 : c.cost[i] > 1000
        · rw [no fun h => by have := h.cost i h''; omega]
          rcases hz with z1 | ⟨z2, z3, z4⟩
          · (repeat (first | refine VC.seq ?_ | refine VC.block ?_ | refine VC.kill ?_ | refine VC.skip ?_ | refine VC.exit ?_ | refine VC.regA ?_ | refine VC.condT ?_ | refine VC.condF ?_))
            exact VC.ret (Fin.A rfl)
          · (repeat (first | refine VC.seq ?_ | refine VC.block ?_ | refine VC.kill ?_ | refine VC.skip ?_ | refine VC.exit ?_ | refine VC.regA ?_ | refine VC.condT ?_ | refine VC.condF ?_))
            exact VC.ret (Fin.A rfl)
        · have hall' : ∀ k, k < i + 1 → (∀ h : k < c.up.length, 0 < k → 0 ≤ c.up[k] ∧ c.up[k] < k) ∧ ∀ h : k < c.cost.length, 0 ≤ c.cost[k] ∧ c.cost[k] ≤ 1000 := fun k hk => by
            rcases Nat.lt_or_ge k i with h1 | h1
            · exact hall k h1
            · have : k = i := by omega
              subst this
              exact ⟨fun _ => u, fun _ => by omega⟩
          clear hall u
          rcases hz with z1 | ⟨z2, z3, z4⟩
          · (repeat (first | refine VC.seq ?_ | refine VC.block ?_ | refine VC.kill ?_ | refine VC.skip ?_ | refine VC.exit ?_ | refine VC.regA ?_ | refine VC.condT ?_ | refine VC.condF ?_))
            refine ⟨_, i + 1, ?_, ⟨rfl, by omega, hall'⟩, ?_⟩
            · omega
            · exact gW
          · (repeat (first | refine VC.seq ?_ | refine VC.block ?_ | refine VC.kill ?_ | refine VC.skip ?_ | refine VC.exit ?_ | refine VC.regA ?_ | refine VC.condT ?_ | refine VC.condF ?_))
            refine ⟨_, i + 1, ?_, ⟨rfl, by omega, hall'⟩, ?_⟩
            · omega
            · exact gW
    · have hz : ((i : Int) > 0 ∧ c.up[i] < 0) ∨ ((i : Int) > 0 ∧ ¬c.up[i] < 0 ∧ c.up[i] ≥ (i : Int)) := by omega
      rw [no fun h => u fun h0 => h.ups i h' h0]
      clear hall u
      rcases hz with ⟨z2, z3⟩ | ⟨z2, z3, z4⟩
      · (repeat (first | refine VC.seq ?_ | refine VC.block ?_ | refine VC.kill ?_ | refine VC.skip ?_ | refine VC.exit ?_ | refine VC.regA ?_ | refine VC.condT ?_ | refine VC.condF ?_))
        exact VC.ret (Fin.A rfl)
      · (repeat (first | refine VC.seq ?_ | refine VC.block ?_ | refine VC.kill ?_ | refine VC.skip ?_ | refine VC.exit ?_ | refine VC.regA ?_ | refine VC.condT ?_ | refine VC.condF ?_))
        exact VC.ret (Fin.A rfl)
  · have h' : i = c.up.length := by omega
    subst h'
    (repeat (first | refine VC.seq ?_ | refine VC.block ?_ | refine VC.kill ?_ | refine VC.skip ?_ | refine VC.exit ?_ | refine VC.regA ?_ | refine VC.condT ?_ | refine VC.condF ?_))
    refine VC.loopG (fun (i : Nat) => ⟨inV [p1, p3, p5] [.op 0 p1 0, vi c.up.length, vi i] .lf, mkB [(p1, .cells [sl1 c.up, sl1 c.cost, sl1 c.ships])] .lf, [], none⟩) (fun n i => n = c.ships.length - i ∧ i ≤ c.ships.length ∧ ∀ k, k < i → ∀ h : k < c.ships.length, 0 ≤ c.ships[k] ∧ c.ships[k] < c.up.length) (x := 0) ?_ ⟨rfl, Nat.zero_le _, fun k hk => absurd hk (Nat.not_lt_zero k)⟩ ?_
    · (apply Go.Ab.V.G.weak; constructor <;> simp (config := {decide := true}) only [PT.Le, inV, mkB, PT.set, VSt.kill, VSt.adopt, VSt.alloc, PT.filt, PT.map, List.map_cons, List.map_nil, noref, norefB, deadB, deadV, nos, nm, nmL, nmB, nmE, Pa.eqb, cond_true, cond_false, Bool.not_true, Bool.not_false, Bool.and_true, Bool.true_and, nmL_vi, flV_len, flP_len, flV_nm, flV_ok, flV_pv, flP_map, drop_flP, drop_flV, putC_flV, eqV2, eqV3, bneT, bneF, decide_true, decide_false, frzL_vi, frzL_flV, nmE_ag, nmE_at, frzE_ag, frzE_at, ofAg_len, ofAt_len, atL_vi, nmL_map_p, frzL_map_p, okL_p, toPVs_p, repsZ, nmL_reps, putC_vi, get_flV0, get_flV1, Int.toNat_zero, Int.toNat_one, Int.reduceToNat, eqV_slice, eqV_ptr, eqV_func, nilS, nilP, nilF, nmL_append, true_or, or_true, and_self, true_and, and_true, Option.some.injEq, reduceCtorEq, false_or, or_false, VV.p.injEq, PV.at.injEq, Value.int.injEq, sl1, vi, bl1, vb, nilV, sl1, g3])
      (all_goals first | rfl | omega | exact ⟨rfl, by omega⟩)
    rintro n i ⟨hn, hi, hship⟩
    simp only [inV, PT.set, mkB]
    (repeat (first | refine VC.seq ?_ | refine VC.block ?_ | refine VC.kill ?_ | refine VC.skip ?_ | refine VC.exit ?_ | refine VC.regA ?_ | refine VC.condT ?_ | refine VC.condF ?_))
    refine VC.condA ?_ ?_ <;> intro h' <;> (simp only [decide_eq_true_eq, decide_eq_false_iff_not, bne_iff_ne, ne_eq, bne_eq_false_iff_eq, beq_iff_eq, beq_eq_false_iff_ne, Bool.not_eq_true', Bool.not_eq_false', Bool.and_eq_true, Bool.or_eq_true, Int.natCast_inj] at h')
    · have h' : i < c.ships.length := by omega
      by_cases u : 0 ≤ c.ships[i] ∧ c.ships[i] < c.up.length
      · have z1 : ¬c.ships[i] < 0 := by omega
        have z2 : ¬c.ships[i] ≥ (c.up.length : Int) := by omega
        have hship' : ∀ k, k < i + 1 → ∀ h : k < c.ships.length, 0 ≤ c.ships[k] ∧ c.ships[k] < c.up.length := fun k hk h => by
          rcases Nat.lt_or_ge k i with h1 | h1
          · exact hship k h1 h
          · have : k = i := by omega
            subst this; exact u
        clear hall hship
        (repeat (first | refine VC.seq ?_ | refine VC.block ?_ | refine VC.kill ?_ | refine VC.skip ?_ | refine VC.exit ?_ | refine VC.regA ?_ | refine VC.condT ?_ | refine VC.condF ?_))
        refine ⟨_, i + 1, ?_, ⟨rfl, by omega, hship'⟩, ?_⟩
        · omega
        · exact gW
      · rw [no fun h => u (h.ship _ (List.getElem_mem h'))]
        have hz : c.ships[i] < 0 ∨ (¬c.ships[i] < 0 ∧ c.ships[i] ≥ (c.up.length : Int)) := by omega
        clear hall hship
        rcases hz with z1 | ⟨z1, z2⟩
        · (repeat (first | refine VC.seq ?_ | refine VC.block ?_ | refine VC.kill ?_ | refine VC.skip ?_ | refine VC.exit ?_ | refine VC.regA ?_ | refine VC.condT ?_ | refine VC.condF ?_))
          exact VC.ret (Fin.A rfl)
        · (repeat (first | refine VC.seq ?_ | refine VC.block ?_ | refine VC.kill ?_ | refine VC.skip ?_ | refine VC.exit ?_ | refine VC.regA ?_ | refine VC.condT ?_ | refine VC.condF ?_))
          exact VC.ret (Fin.A rfl)
    · rw [yes ⟨by omega, by omega, g3, by omega, fun _ => g5, fun i h h0 => (hall i h).1 h h0, fun i h => (hall i (by omega)).2 h, fun x hx => by
        obtain ⟨k, hk, rfl⟩ := List.mem_iff_getElem.1 hx
        exact hship k (by omega) hk⟩]
      (repeat (first | refine VC.seq ?_ | refine VC.block ?_ | refine VC.kill ?_ | refine VC.skip ?_ | refine VC.exit ?_ | refine VC.regA ?_ | refine VC.condT ?_ | refine VC.condF ?_))
      exact VC.ret (Fin.A rfl)
end Go.Ab.Dues

namespace Go.Ab.Dues
open Go.Ab.V
set_option maxRecDepth 100000
end Go.Ab.Dues

namespace Go.Ab.Dues
open Go.Ab.V
set_option maxRecDepth 100000
/-- The pieces from a place down to the sea. -/
def chN (up : List Int) : Nat → Int → Nat
  | 0, _ => 0
  | n + 1, p => if 0 ≤ p then 2 ^ p.toNat ||| chN up n (up.getD p.toNat 0) else 0
def ch (c : Can) (p : Int) : Nat := chN c.up 11 p
theorem up_get {c : Can} (h : okC c) {p : Nat} (hp : p < c.up.length) : -1 ≤ c.up.getD p 0 ∧ c.up.getD p 0 < p := by
  rw [List.getD_eq_getElem?_getD, List.getElem?_eq_getElem hp, Option.getD_some]
  rcases Nat.eq_zero_or_pos p with e | e
  · subst e; rw [h.up0 hp]; omega
  · have := h.ups p hp e; omega
theorem chN_fuel {c : Can} (h : okC c) : ∀ (n m : Nat) (p : Int), -1 ≤ p → p < n → p < m → p < c.up.length → chN c.up n p = chN c.up m p
  | 0, 0, _, _, _, _, _ => rfl
  | 0, m + 1, p, h0, h1, _, _ => by simp only [chN]; rw [if_neg (by omega)]
  | n + 1, 0, p, h0, _, h1, _ => by simp only [chN]; rw [if_neg (by omega)]
  | n + 1, m + 1, p, h0, h1, h2, h3 => by
    simp only [chN]
    split
    · have := up_get h (p := p.toNat) (by omega)
      rw [chN_fuel h n m _ (by omega) (by omega) (by omega) (by omega)]
    · rfl
theorem ch_neg {c : Can} {p : Int} (hp : p < 0) : ch c p = 0 := by
  unfold ch; simp only [chN]; rw [if_neg (by omega)]
theorem ch_step {c : Can} (h : okC c) {p : Nat} (hp : p < c.up.length) : ch c p = 2 ^ p ||| ch c c.up[p] := by
  have h10 := h.n10
  have := up_get h hp
  unfold ch
  rw [show chN c.up 11 (p : Int) = (if 0 ≤ (p : Int) then 2 ^ (p : Int).toNat ||| chN c.up 10 (c.up.getD (p : Int).toNat 0) else 0) from rfl, if_pos (by omega), Int.toNat_natCast, chN_fuel h 10 11 _ this.1 (by omega) (by omega) (by omega)]
  rw [List.getD_eq_getElem?_getD, List.getElem?_eq_getElem hp, Option.getD_some]
theorem or_lt {a b m : Nat} (ha : a < 2 ^ m) (hb : b < 2 ^ m) : a ||| b < 2 ^ m := Nat.or_lt_two_pow ha hb
/-- What each ship needs, of the first k ships. -/
def needK (c : Can) (k : Nat) : List Nat := (List.range 7).map fun s => if s < k then ch c (c.ships.getD s (-1)) else 0
theorem needK_len (c : Can) (k : Nat) : (needK c k).length = 7 := by simp [needK]
theorem needK_get (c : Can) (k s : Nat) (h : s < (needK c k).length) : (needK c k)[s] = if s < k then ch c (c.ships.getD s (-1)) else 0 := by simp [needK]
theorem needK_set (c : Can) (k : Nat) (hk : k < 7) : (needK c k).set k (ch c (c.ships.getD k (-1))) = needK c (k + 1) := by
  refine List.ext_getElem (by simp [needK]) fun i h1 h2 => ?_
  rw [List.getElem_set, needK_get, needK_get]
  split
  · rename_i e; subst e; rw [if_pos (by omega)]
  · rename_i e
    by_cases h : i < k
    · rw [if_pos h, if_pos (by omega)]
    · rw [if_neg h, if_neg (by omega)]
theorem nmL_nat : ∀ l : List Nat, nmL (l.map fun n : Nat => vi n) = []
  | [] => rfl
  | x :: l => by simp only [List.map_cons, nmL, nmL_nat l]; rfl
theorem nmL_nat' (l : List Nat) : nmL (l.map fun n : Nat => VV.p (.at (.int .i64 n))) = [] := nmL_nat l
/-- A fleet in memory. -/
def flC (c : Can) (nd : List Nat) (m : Pa) : List VV := sl1 c.up :: sl1 c.cost :: sl1 c.ships :: ((nd.map fun n : Nat => vi n) ++ [.om m])
theorem fl_get (c : Can) (nd : List Nat) (m : Pa) (s : Nat) (h : s < nd.length) : (flC c nd m)[3 + s]? = some (vi nd[s]) := by
  unfold flC
  rw [show 3 + s = s + 1 + 1 + 1 from by omega, List.getElem?_cons_succ, List.getElem?_cons_succ, List.getElem?_cons_succ, List.getElem?_append_left (by simpa using h), List.getElem?_map, List.getElem?_eq_getElem h]; rfl
theorem fl_len (c : Can) (nd : List Nat) (m : Pa) : (flC c nd m).length = nd.length + 4 := by simp [flC]
theorem fl_put (c : Can) (nd : List Nat) (m : Pa) (s v : Nat) (h : s < nd.length) : putC (flC c nd m) (3 + s) [vi v] = flC c (nd.set s v) m := by
  rw [putC_one _ _ _ (by rw [fl_len]; omega)]
  unfold flC
  rw [show 3 + s = s + 1 + 1 + 1 from by omega, List.set_cons_succ, List.set_cons_succ, List.set_cons_succ, List.set_append_left _ _ (by simpa using h), ← List.map_set]
set_option maxHeartbeats 4000000 in
theorem open_ok (c : Can) (h : okC c) : VCall cfg 52 [canV c] [] [p16, p14] (.tup [.op 0 p16 0, vi 0]) [(p16, .cells (flC c (needK c c.ships.length) p14)), (p14, .map [])] := by
  have k1 := Check_ok c h
  have h7 := h.s7
  unfold canV at k1 ⊢
  (refine VCall.mk (fn := a52) rfl rfl rfl ?_; simp only [a52, inV, mkB, nmsL, PT.set])
  (repeat (first | refine VC.seq ?_ | refine VC.block ?_ | refine VC.kill ?_ | refine VC.skip ?_ | refine VC.exit ?_ | refine VC.regA ?_ | refine VC.condT ?_ | refine VC.condF ?_))
  (refine VC.regCA ?_; refine VO.moreA ?_; refine VO.call0A (no_orc _ (by decide)) k1 ?_; refine VO.endA ?_; (repeat (first | refine VC.seq ?_ | refine VC.block ?_ | refine VC.kill ?_ | refine VC.skip ?_ | refine VC.exit ?_ | refine VC.regA ?_ | refine VC.condT ?_ | refine VC.condF ?_)))
  have hf0 : flC c (needK c 0) p14 = [sl1 c.up, sl1 c.cost, sl1 c.ships, vi 0, vi 0, vi 0, vi 0, vi 0, vi 0, vi 0, .om p14] := rfl
  refine VC.loopG (fun (s : Nat) => ⟨inV [p1, p5, p18, p19, p20] [.op 0 p1 0, .op 0 p16 0, sl1 c.ships, vi c.ships.length, vi s] .lf, mkB [(p1, .cells [sl1 c.up, sl1 c.cost, sl1 c.ships]), (p16, .cells (flC c (needK c s) p14)), (p14, .map [])] .lf, [], none⟩) (fun n s => n = c.ships.length - s ∧ s ≤ c.ships.length) (x := 0) ?_ ⟨rfl, Nat.zero_le _⟩ ?_
  · exact gF @hf0
  rintro n s ⟨hn, hs⟩
  simp only [inV, PT.set, mkB]
  (repeat (first | refine VC.seq ?_ | refine VC.block ?_ | refine VC.kill ?_ | refine VC.skip ?_ | refine VC.exit ?_ | refine VC.regA ?_ | refine VC.condT ?_ | refine VC.condF ?_))
  refine VC.condA ?_ ?_ <;> intro h' <;> (simp only [decide_eq_true_eq, decide_eq_false_iff_not, bne_iff_ne, ne_eq, bne_eq_false_iff_eq, beq_iff_eq, beq_eq_false_iff_ne, Bool.not_eq_true', Bool.not_eq_false', Bool.and_eq_true, Bool.or_eq_true, Int.natCast_inj] at h')
  · have h' : s < c.ships.length := by omega
    have hsh := h.ship _ (List.getElem_mem h')
    have hgd : c.ships.getD s (-1) = c.ships[s] := by rw [List.getD_eq_getElem?_getD, List.getElem?_eq_getElem h']; rfl
    have hset := needK_set c s (by omega)
    rw [hgd] at hset
    have hlen := needK_len c s
    have h0 : ∀ (h : s < (needK c s).length), (needK c s)[s] = 0 := fun h => by rw [needK_get, if_neg (by omega)]
    generalize hND : needK c s = nd at *
    have h0' : nd.set s 0 = nd := by
      refine List.ext_getElem (by simp) fun i h1 h2 => ?_
      rw [List.getElem_set]; split
      · rename_i e; subst e; exact (h0 _).symm
      · rfl
    obtain ⟨q0, hq0⟩ := Int.eq_ofNat_of_zero_le hsh.1
    (repeat (first | refine VC.seq ?_ | refine VC.block ?_ | refine VC.kill ?_ | refine VC.skip ?_ | refine VC.exit ?_ | refine VC.regA ?_ | refine VC.condT ?_ | refine VC.condF ?_))
    refine VC.loopG (fun (q : Nat × Int) => ⟨inV [p1, p5, p6, p7, p18, p19, p20] [.op 0 p1 0, .op 0 p16 0, vi s, vi q.2, sl1 c.ships, vi c.ships.length, vi s] .lf, mkB [(p1, .cells [sl1 c.up, sl1 c.cost, sl1 c.ships]), (p16, .cells (flC c (nd.set s q.1) p14)), (p14, .map [])] .lf, [], none⟩) (fun n q => n = (q.2 + 1).toNat ∧ -1 ≤ q.2 ∧ q.2 < c.up.length ∧ q.1 < 1024 ∧ q.1 ||| ch c q.2 = ch c c.ships[s]) (x := (0, c.ships[s])) ?_ ⟨rfl, by simp only; omega, hsh.2, by simp, by simp⟩ ?_
    · exact gF @h0'
    rintro n' ⟨acc, p⟩ ⟨hn', hp0, hp1, hacc, hor⟩
    simp only at hn' hp0 hp1 hacc hor
    simp only [inV, PT.set, mkB]
    (repeat (first | refine VC.seq ?_ | refine VC.block ?_ | refine VC.kill ?_ | refine VC.skip ?_ | refine VC.exit ?_ | refine VC.regA ?_ | refine VC.condT ?_ | refine VC.condF ?_))
    refine VC.condA ?_ ?_ <;> intro h2 <;> (simp only [decide_eq_true_eq, decide_eq_false_iff_not, bne_iff_ne, ne_eq, bne_eq_false_iff_eq, beq_iff_eq, beq_eq_false_iff_ne, Bool.not_eq_true', Bool.not_eq_false', Bool.and_eq_true, Bool.or_eq_true, Int.natCast_inj] at h2)
    · obtain ⟨q, rfl⟩ := Int.eq_ofNat_of_zero_le h2
      have hq : q < c.up.length := by omega
      have h10 := h.n10
      have hu := up_get h hq
      rw [List.getD_eq_getElem?_getD, List.getElem?_eq_getElem hq, Option.getD_some] at hu
      have hstep := ch_step h hq
      have hsl : (nd.set s acc).length = 7 := by rw [List.length_set]; exact hlen
      have hgs := fl_get c (nd.set s acc) p14 s (by omega)
      have hga : (nd.set s acc)[s]'(by omega) = acc := by rw [List.getElem_set_self]
      rw [hga] at hgs
      have hmod : (q : Int) % 18446744073709551616 = (q : Int) := by omega
      have hsh1 := shl_one (n := q) (by omega)
      have hp10 : 2 ^ q < 1024 := Nat.pow_lt_pow_right (n := 10) (by decide) (by omega)
      have hor1 := or_i64 (a := acc) (b := 2 ^ q) (by omega) (by omega)
      have hpt := fl_put c (nd.set s acc) p14 s (acc ||| 2 ^ q) (by omega)
      rw [List.set_set] at hpt
      simp only [vi] at hpt
      have hl11 := fl_len c (nd.set s acc) p14
      (repeat (first | refine VC.seq ?_ | refine VC.block ?_ | refine VC.kill ?_ | refine VC.skip ?_ | refine VC.exit ?_ | refine VC.regA ?_ | refine VC.condT ?_ | refine VC.condF ?_))
      ((try (apply VC.regU; · (exact vF (And.intro @hmod (And.intro @hsh1 (And.intro @hgs (And.intro @hor1 @hpt))))))); (repeat (first | refine VC.seq ?_ | refine VC.block ?_ | refine VC.kill ?_ | refine VC.skip ?_ | refine VC.exit ?_ | refine VC.regA ?_ | refine VC.condT ?_ | refine VC.condF ?_)))
      refine ⟨_, (acc ||| 2 ^ q, c.up[q]), ?_, ⟨rfl, by simp only; omega, by simp only; omega, or_lt (m := 10) hacc hp10, ?_⟩, ?_⟩
      · simp only; omega
      · simp only
        rw [← hor, hstep, Nat.or_assoc]
      · exact gF @hpt
    · have h2 : p = -1 := by omega
      subst h2
      rw [ch_neg (by omega), Nat.or_zero] at hor
      (repeat (first | refine VC.seq ?_ | refine VC.block ?_ | refine VC.kill ?_ | refine VC.skip ?_ | refine VC.exit ?_ | refine VC.regA ?_ | refine VC.condT ?_ | refine VC.condF ?_))
      refine ⟨_, s + 1, ?_, ⟨rfl, by omega⟩, ?_⟩
      · omega
      · exact gF (And.intro @hor @hset)
  · have h' : s = c.ships.length := by omega
    subst h'
    (repeat (first | refine VC.seq ?_ | refine VC.block ?_ | refine VC.kill ?_ | refine VC.skip ?_ | refine VC.exit ?_ | refine VC.regA ?_ | refine VC.condT ?_ | refine VC.condF ?_))
    refine VC.ret (Fin.of rfl rfl ?_ rfl rfl ?_)
    · simp [mkB, PT.set, PT.Le, VSt.kill]
    · simp [subs, nm, nmL, nmsB, nmB, nmE, flC, nmL_append, nmL_nat', nos, Pa.eqb, vi, sl1]
end Go.Ab.Dues

namespace Go.Ab.Dues
open Go.Ab.V
set_option maxRecDepth 100000
/-! ### What a set costs -/
def pieces (nd : List Nat) (S : Nat) : Nat := (bitsN S).foldl (fun a s => a ||| nd.getD s 0) 0
def esM (M : List (Nat × Int)) : List (Value × VV) := M.map fun q => (.int .i64 q.1, vi q.2)
end Go.Ab.Dues

namespace Go.Ab.Dues
open Go.Ab.V
set_option maxRecDepth 100000
theorem fl_nm (c : Can) (nd : List Nat) (m : Pa) : nmL (flC c nd m) = [m] := by
  unfold flC
  simp only [nmL, nmL_append, nmL_nat, nm, sl1, List.nil_append, List.append_nil]
theorem es_nm : ∀ M : List (Nat × Int), nmE (esM M) = []
  | [] => rfl
  | q :: M => by show nm (vi q.2) ++ nmE (esM M) = []; rw [es_nm M]; rfl
end Go.Ab.Dues

namespace Go.Ab.Dues
open Go.Ab.V
set_option maxRecDepth 100000
theorem fl_ships (c : Can) (nd : List Nat) (m : Pa) : (flC c nd m)[2]? = some (sl1 c.ships) := rfl
set_option maxHeartbeats 4000000 in
theorem all_ok (c : Can) (h7 : c.ships.length ≤ 7) (nd : List Nat) (es : List (Nat × Int)) :
    VCall cfg 57 [.op 0 p16 0] [(p16, .cells (flC c nd p14)), (p14, .map (esM es))] [] (vi ((2 ^ c.ships.length - 1 : Nat) : Int)) [(p16, .cells (flC c nd p14)), (p14, .map (esM es))] := by
  have hf := fl_ships c nd p14
  simp only [sl1] at hf
  have hm : (c.ships.length : Int) % 18446744073709551616 = c.ships.length := by omega
  have hs := shl_one (n := c.ships.length) (by omega)
  have hp : 2 ^ c.ships.length ≤ 2 ^ 7 := Nat.pow_le_pow_right (by decide) h7
  have hp0 : 0 < 2 ^ c.ships.length := Nat.pow_pos (by decide)
  have hp : 2 ^ c.ships.length ≤ 128 := hp
  generalize 2 ^ c.ships.length = w at *
  have hsub : (w : Int) - 1 = ((w - 1 : Nat) : Int) := by omega
  have hnm := fl_nm c nd p14
  generalize flC c nd p14 = FL at *
  (refine VCall.mk (fn := a57) rfl rfl rfl ?_; simp only [a57, inV, mkB, nmsL, PT.set])
  (repeat (first | refine VC.seq ?_ | refine VC.block ?_ | refine VC.kill ?_ | refine VC.skip ?_ | refine VC.exit ?_ | refine VC.regA ?_ | refine VC.condT ?_ | refine VC.condF ?_))
  ((try (apply VC.regU; · (exact vF (And.intro @hf (And.intro @hm @hs))))); (repeat (first | refine VC.seq ?_ | refine VC.block ?_ | refine VC.kill ?_ | refine VC.skip ?_ | refine VC.exit ?_ | refine VC.regA ?_ | refine VC.condT ?_ | refine VC.condF ?_)))
  rw [← hsub]
  refine VC.ret (Fin.of rfl rfl ?_ rfl rfl ?_)
  · simp [mkB, PT.set, PT.Le, VSt.kill]
  · simp [subs, nm, vi, nmsB, nmB, hnm, es_nm, nos, Pa.eqb]
end Go.Ab.Dues

namespace Go.Ab.Dues
open Go.Ab.V
set_option maxRecDepth 100000
theorem bit_and (a p : Nat) : (a >>> p) &&& 1 = if a.testBit p = true then 1 else 0 := by
  rw [Nat.and_one_is_mod]
  have : a.testBit p = decide ((a >>> p) % 2 = 1) := by
    rw [Nat.testBit_eq_decide_div_mod_eq, Nat.shiftRight_eq_div_pow]
  rw [this]
  by_cases h : a >>> p % 2 = 1
  · rw [decide_eq_true h, if_pos rfl, h]
  · rw [decide_eq_false h, if_neg (by simp)]; omega
end Go.Ab.Dues

namespace Go.Ab.Dues
open Go.Ab.V
set_option maxRecDepth 100000
end Go.Ab.Dues

namespace Go.Ab.Dues
open Go.Ab.V
set_option maxRecDepth 100000
end Go.Ab.Dues

namespace Go.Ab.Dues
open Go.Ab.V
set_option maxRecDepth 100000
theorem bit_mod (a p : Nat) : (a >>> p) % 2 = if a.testBit p = true then 1 else 0 := by
  rw [← Nat.and_one_is_mod, bit_and]
theorem shl_w {q : Nat} (h : q < 62) : IntKind.i64.wrap (1 * 2 ^ min q IntKind.i64.bits) = ((2 ^ q : Nat) : Int) := by
  have := shl_one h
  unfold shlA at this
  rw [if_neg (by omega), Int.toNat_natCast] at this
  injection this with this
  injection this
end Go.Ab.Dues

namespace Go.Ab.Dues
open Go.Ab.V
set_option maxRecDepth 100000
end Go.Ab.Dues

namespace Go.Ab.Dues
/-! ### Set functions: plain sums over ranges -/
end Go.Ab.Dues

namespace Go.Ab.Dues
open Go.Ab.V
set_option maxRecDepth 100000
end Go.Ab.Dues

namespace Go.Ab.Dues
open Go.Ab.V
set_option maxRecDepth 100000
end Go.Ab.Dues

namespace Go.Ab.Dues
open Go.Ab.V
set_option maxRecDepth 100000
end Go.Ab.Dues

namespace Go.Ab.Dues
open Go.Ab.V
set_option maxRecDepth 100000
end Go.Ab.Dues

namespace Go.Ab.Dues
open Go.Ab.V
set_option maxRecDepth 100000
end Go.Ab.Dues

namespace Go.Ab.Dues
open Go.Ab.V
set_option maxRecDepth 100000
/-! ### Orders -/
/-! ### Shares by an order -/
end Go.Ab.Dues

namespace Go.Ab.Dues
open Go.Ab.V
set_option maxRecDepth 100000
end Go.Ab.Dues

namespace Go.Ab.Dues
open Go.Ab.V
set_option maxRecDepth 100000
end Go.Ab.Dues

namespace Go.Ab.Dues
open Go.Ab.V
set_option maxRecDepth 100000
end Go.Ab.Dues

namespace Go.Ab.Dues
open Go.Ab.V
set_option maxRecDepth 100000
/-! ### What functions say of what is no canal -/
def nilP0 : VV := .p (.at (.pointer none))
def badE (e : Int) : Prop := e = 100 ∨ e = 1
theorem open_no (c : Can) (hno : ¬okC c) (hs : c.ships.length ≤ 1000000) (hu : c.up.length ≤ 1000000) (hcc : c.cost.length ≤ 1000000) : VCall cfg 52 [canV c] [] [] (.tup [nilP0, vi 100]) [] := by
  have k := Check_no c hno hs hu hcc
  unfold canV at k ⊢
  (refine VCall.mk (fn := a52) rfl rfl rfl ?_; simp only [a52, inV, mkB, nmsL, PT.set])
  (repeat (first | refine VC.seq ?_ | refine VC.block ?_ | refine VC.kill ?_ | refine VC.skip ?_ | refine VC.exit ?_ | refine VC.regA ?_ | refine VC.condT ?_ | refine VC.condF ?_))
  (refine VC.regCA ?_; refine VO.moreA ?_; refine VO.call0A (no_orc _ (by decide)) k ?_; refine VO.endA ?_; (repeat (first | refine VC.seq ?_ | refine VC.block ?_ | refine VC.kill ?_ | refine VC.skip ?_ | refine VC.exit ?_ | refine VC.regA ?_ | refine VC.condT ?_ | refine VC.condF ?_)))
  exact VC.ret (Fin.A rfl)
section
variable {c : Can} {e : Int}
theorem openShip_e (he : badE e) (k : VCall cfg 52 [canV c] [] [] (.tup [nilP0, vi e]) []) (x : Int) : VCall cfg 72 [canV c, vi x] [] [] (.tup [nilP0, vi e]) [] := by
  unfold canV at k ⊢
  rcases he with rfl | rfl <;> ((refine VCall.mk (fn := a72) rfl rfl rfl ?_; simp only [a72, inV, mkB, nmsL, PT.set]); (repeat (first | refine VC.seq ?_ | refine VC.block ?_ | refine VC.kill ?_ | refine VC.skip ?_ | refine VC.exit ?_ | refine VC.regA ?_ | refine VC.condT ?_ | refine VC.condF ?_)); (refine VC.regCA ?_; refine VO.moreA ?_; refine VO.call0A (no_orc _ (by decide)) k ?_; refine VO.endA ?_; (repeat (first | refine VC.seq ?_ | refine VC.block ?_ | refine VC.kill ?_ | refine VC.skip ?_ | refine VC.exit ?_ | refine VC.regA ?_ | refine VC.condT ?_ | refine VC.condF ?_))); exact VC.ret (Fin.A rfl))
theorem openSet_e (he : badE e) (k : VCall cfg 52 [canV c] [] [] (.tup [nilP0, vi e]) []) (x : Int) : VCall cfg 70 [canV c, vi x] [] [] (.tup [nilP0, vi e]) [] := by
  unfold canV at k ⊢
  rcases he with rfl | rfl <;> ((refine VCall.mk (fn := a70) rfl rfl rfl ?_; simp only [a70, inV, mkB, nmsL, PT.set]); (repeat (first | refine VC.seq ?_ | refine VC.block ?_ | refine VC.kill ?_ | refine VC.skip ?_ | refine VC.exit ?_ | refine VC.regA ?_ | refine VC.condT ?_ | refine VC.condF ?_)); (refine VC.regCA ?_; refine VO.moreA ?_; refine VO.call0A (no_orc _ (by decide)) k ?_; refine VO.endA ?_; (repeat (first | refine VC.seq ?_ | refine VC.block ?_ | refine VC.kill ?_ | refine VC.skip ?_ | refine VC.exit ?_ | refine VC.regA ?_ | refine VC.condT ?_ | refine VC.condF ?_))); exact VC.ret (Fin.A rfl))
theorem Equal_e (he : badE e) (k : VCall cfg 52 [canV c] [] [] (.tup [nilP0, vi e]) []) : VCall cfg 18 [canV c] [] [] (.tup [nilV, vi e]) [] := by
  unfold canV at k ⊢
  rcases he with rfl | rfl <;> ((refine VCall.mk (fn := a18) rfl rfl rfl ?_; simp only [a18, inV, mkB, nmsL, PT.set]); (repeat (first | refine VC.seq ?_ | refine VC.block ?_ | refine VC.kill ?_ | refine VC.skip ?_ | refine VC.exit ?_ | refine VC.regA ?_ | refine VC.condT ?_ | refine VC.condF ?_)); (refine VC.regCA ?_; refine VO.moreA ?_; refine VO.call0A (no_orc _ (by decide)) k ?_; refine VO.endA ?_; (repeat (first | refine VC.seq ?_ | refine VC.block ?_ | refine VC.kill ?_ | refine VC.skip ?_ | refine VC.exit ?_ | refine VC.regA ?_ | refine VC.condT ?_ | refine VC.condF ?_))); exact VC.ret (Fin.A rfl))
theorem Average_e (he : badE e) (k : VCall cfg 52 [canV c] [] [] (.tup [nilP0, vi e]) []) : VCall cfg 35 [canV c] [] [] (.tup [nilV, vi e]) [] := by
  unfold canV at k ⊢
  rcases he with rfl | rfl <;> ((refine VCall.mk (fn := a35) rfl rfl rfl ?_; simp only [a35, inV, mkB, nmsL, PT.set]); (repeat (first | refine VC.seq ?_ | refine VC.block ?_ | refine VC.kill ?_ | refine VC.skip ?_ | refine VC.exit ?_ | refine VC.regA ?_ | refine VC.condT ?_ | refine VC.condF ?_)); (refine VC.regCA ?_; refine VO.moreA ?_; refine VO.call0A (no_orc _ (by decide)) k ?_; refine VO.endA ?_; (repeat (first | refine VC.seq ?_ | refine VC.block ?_ | refine VC.kill ?_ | refine VC.skip ?_ | refine VC.exit ?_ | refine VC.regA ?_ | refine VC.condT ?_ | refine VC.condF ?_))); exact VC.ret (Fin.A rfl))
theorem IsFair_e (he : badE e) (k : VCall cfg 52 [canV c] [] [] (.tup [nilP0, vi e]) []) : VCall cfg 25 [canV c, nilV] [] [] (.tup [vi 0, vb false, vi e]) [] := by
  unfold canV nilV at *
  rcases he with rfl | rfl <;> ((refine VCall.mk (fn := a25) rfl rfl rfl ?_; simp only [a25, inV, mkB, nmsL, PT.set]); (repeat (first | refine VC.seq ?_ | refine VC.block ?_ | refine VC.kill ?_ | refine VC.skip ?_ | refine VC.exit ?_ | refine VC.regA ?_ | refine VC.condT ?_ | refine VC.condF ?_)); (refine VC.regCA ?_; refine VO.moreA ?_; refine VO.call0A (no_orc _ (by decide)) k ?_; refine VO.endA ?_; (repeat (first | refine VC.seq ?_ | refine VC.block ?_ | refine VC.kill ?_ | refine VC.skip ?_ | refine VC.exit ?_ | refine VC.regA ?_ | refine VC.condT ?_ | refine VC.condF ?_))); exact VC.ret (Fin.A rfl))
theorem Pieces_e (he : badE e) (k : VCall cfg 52 [canV c] [] [] (.tup [nilP0, vi e]) []) : VCall cfg 38 [canV c] [] [] (.tup [nilV, vi e]) [] := by
  unfold canV at k ⊢
  rcases he with rfl | rfl <;> ((refine VCall.mk (fn := a38) rfl rfl rfl ?_; simp only [a38, inV, mkB, nmsL, PT.set]); (repeat (first | refine VC.seq ?_ | refine VC.block ?_ | refine VC.kill ?_ | refine VC.skip ?_ | refine VC.exit ?_ | refine VC.regA ?_ | refine VC.condT ?_ | refine VC.condF ?_)); (refine VC.regCA ?_; refine VO.moreA ?_; refine VO.call0A (no_orc _ (by decide)) k ?_; refine VO.endA ?_; (repeat (first | refine VC.seq ?_ | refine VC.block ?_ | refine VC.kill ?_ | refine VC.skip ?_ | refine VC.exit ?_ | refine VC.regA ?_ | refine VC.condT ?_ | refine VC.condF ?_))); exact VC.ret (Fin.A rfl))
theorem Power_e (he : badE e) (k : VCall cfg 52 [canV c] [] [] (.tup [nilP0, vi e]) []) (x : Int) : VCall cfg 28 [canV c, vi x] [] [] (.tup [nilV, vi e]) [] := by
  unfold canV at k ⊢
  rcases he with rfl | rfl <;> ((refine VCall.mk (fn := a28) rfl rfl rfl ?_; simp only [a28, inV, mkB, nmsL, PT.set]); (repeat (first | refine VC.seq ?_ | refine VC.block ?_ | refine VC.kill ?_ | refine VC.skip ?_ | refine VC.exit ?_ | refine VC.regA ?_ | refine VC.condT ?_ | refine VC.condF ?_)); (refine VC.regCA ?_; refine VO.moreA ?_; refine VO.call0A (no_orc _ (by decide)) k ?_; refine VO.endA ?_; (repeat (first | refine VC.seq ?_ | refine VC.block ?_ | refine VC.kill ?_ | refine VC.skip ?_ | refine VC.exit ?_ | refine VC.regA ?_ | refine VC.condT ?_ | refine VC.condF ?_))); exact VC.ret (Fin.A rfl))
theorem ByOrder_e (he : badE e) (k : VCall cfg 52 [canV c] [] [] (.tup [nilP0, vi e]) []) (l : List Int) : VCall cfg 19 [canV c, sl1 l] [] [] (.tup [nilV, vi e]) [] := by
  unfold canV at k ⊢
  rcases he with rfl | rfl <;> ((refine VCall.mk (fn := a19) rfl rfl rfl ?_; simp only [a19, inV, mkB, nmsL, PT.set]); (repeat (first | refine VC.seq ?_ | refine VC.block ?_ | refine VC.kill ?_ | refine VC.skip ?_ | refine VC.exit ?_ | refine VC.regA ?_ | refine VC.condT ?_ | refine VC.condF ?_)); (refine VC.regCA ?_; refine VO.moreA ?_; refine VO.call0A (no_orc _ (by decide)) k ?_; refine VO.endA ?_; (repeat (first | refine VC.seq ?_ | refine VC.block ?_ | refine VC.kill ?_ | refine VC.skip ?_ | refine VC.exit ?_ | refine VC.regA ?_ | refine VC.condT ?_ | refine VC.condF ?_))); exact VC.ret (Fin.A rfl))
theorem CostOf_e (he : badE e) (x : Int) (k : VCall cfg 70 [canV c, vi x] [] [] (.tup [nilP0, vi e]) []) : VCall cfg 31 [canV c, vi x] [] [] (.tup [vi 0, vi e]) [] := by
  unfold canV at k ⊢
  rcases he with rfl | rfl <;> ((refine VCall.mk (fn := a31) rfl rfl rfl ?_; simp only [a31, inV, mkB, nmsL, PT.set]); (repeat (first | refine VC.seq ?_ | refine VC.block ?_ | refine VC.kill ?_ | refine VC.skip ?_ | refine VC.exit ?_ | refine VC.regA ?_ | refine VC.condT ?_ | refine VC.condF ?_)); (refine VC.regCA ?_; refine VO.moreA ?_; refine VO.call0A (no_orc _ (by decide)) k ?_; refine VO.endA ?_; (repeat (first | refine VC.seq ?_ | refine VC.block ?_ | refine VC.kill ?_ | refine VC.skip ?_ | refine VC.exit ?_ | refine VC.regA ?_ | refine VC.condT ?_ | refine VC.condF ?_))); exact VC.ret (Fin.A rfl))
theorem Gain_e (he : badE e) (x : Int) (k : VCall cfg 70 [canV c, vi x] [] [] (.tup [nilP0, vi e]) []) : VCall cfg 37 [canV c, vi x] [] [] (.tup [vi 0, vi e]) [] := by
  unfold canV at k ⊢
  rcases he with rfl | rfl <;> ((refine VCall.mk (fn := a37) rfl rfl rfl ?_; simp only [a37, inV, mkB, nmsL, PT.set]); (repeat (first | refine VC.seq ?_ | refine VC.block ?_ | refine VC.kill ?_ | refine VC.skip ?_ | refine VC.exit ?_ | refine VC.regA ?_ | refine VC.condT ?_ | refine VC.condF ?_)); (refine VC.regCA ?_; refine VO.moreA ?_; refine VO.call0A (no_orc _ (by decide)) k ?_; refine VO.endA ?_; (repeat (first | refine VC.seq ?_ | refine VC.block ?_ | refine VC.kill ?_ | refine VC.skip ?_ | refine VC.exit ?_ | refine VC.regA ?_ | refine VC.condT ?_ | refine VC.condF ?_))); exact VC.ret (Fin.A rfl))
theorem Needs_e (he : badE e) (x : Int) (k : VCall cfg 72 [canV c, vi x] [] [] (.tup [nilP0, vi e]) []) : VCall cfg 41 [canV c, vi x] [] [] (.tup [nilV, vi e]) [] := by
  unfold canV at k ⊢
  rcases he with rfl | rfl <;> ((refine VCall.mk (fn := a41) rfl rfl rfl ?_; simp only [a41, inV, mkB, nmsL, PT.set]); (repeat (first | refine VC.seq ?_ | refine VC.block ?_ | refine VC.kill ?_ | refine VC.skip ?_ | refine VC.exit ?_ | refine VC.regA ?_ | refine VC.condT ?_ | refine VC.condF ?_)); (refine VC.regCA ?_; refine VO.moreA ?_; refine VO.call0A (no_orc _ (by decide)) k ?_; refine VO.endA ?_; (repeat (first | refine VC.seq ?_ | refine VC.block ?_ | refine VC.kill ?_ | refine VC.skip ?_ | refine VC.exit ?_ | refine VC.regA ?_ | refine VC.condT ?_ | refine VC.condF ?_))); exact VC.ret (Fin.A rfl))
theorem Least_e (he : badE e) (x : Int) (k : VCall cfg 72 [canV c, vi x] [] [] (.tup [nilP0, vi e]) []) : VCall cfg 45 [canV c, vi x] [] [] (.tup [.agg [vi 0, vi 0], vi e]) [] := by
  unfold canV at k ⊢
  rcases he with rfl | rfl <;> ((refine VCall.mk (fn := a45) rfl rfl rfl ?_; simp only [a45, inV, mkB, nmsL, PT.set]); (repeat (first | refine VC.seq ?_ | refine VC.block ?_ | refine VC.kill ?_ | refine VC.skip ?_ | refine VC.exit ?_ | refine VC.regA ?_ | refine VC.condT ?_ | refine VC.condF ?_)); (refine VC.regCA ?_; refine VO.moreA ?_; refine VO.call0A (no_orc _ (by decide)) k ?_; refine VO.endA ?_; (repeat (first | refine VC.seq ?_ | refine VC.block ?_ | refine VC.kill ?_ | refine VC.skip ?_ | refine VC.exit ?_ | refine VC.regA ?_ | refine VC.condT ?_ | refine VC.condF ?_))); exact VC.ret (Fin.A rfl))
theorem Greatest_e (he : badE e) (x : Int) (k : VCall cfg 72 [canV c, vi x] [] [] (.tup [nilP0, vi e]) []) : VCall cfg 46 [canV c, vi x] [] [] (.tup [.agg [vi 0, vi 0], vi e]) [] := by
  unfold canV at k ⊢
  rcases he with rfl | rfl <;> ((refine VCall.mk (fn := a46) rfl rfl rfl ?_; simp only [a46, inV, mkB, nmsL, PT.set]); (repeat (first | refine VC.seq ?_ | refine VC.block ?_ | refine VC.kill ?_ | refine VC.skip ?_ | refine VC.exit ?_ | refine VC.regA ?_ | refine VC.condT ?_ | refine VC.condF ?_)); (refine VC.regCA ?_; refine VO.moreA ?_; refine VO.call0A (no_orc _ (by decide)) k ?_; refine VO.endA ?_; (repeat (first | refine VC.seq ?_ | refine VC.block ?_ | refine VC.kill ?_ | refine VC.skip ?_ | refine VC.exit ?_ | refine VC.regA ?_ | refine VC.condT ?_ | refine VC.condF ?_))); exact VC.ret (Fin.A rfl))
theorem Without_e (he : badE e) (x : Int) (k : VCall cfg 72 [canV c, vi x] [] [] (.tup [nilP0, vi e]) []) : VCall cfg 44 [canV c, vi x] [] [] (.tup [.agg [nilV, nilV, nilV], vi e]) [] := by
  unfold canV at k ⊢
  rcases he with rfl | rfl <;> ((refine VCall.mk (fn := a44) rfl rfl rfl ?_; simp only [a44, inV, mkB, nmsL, PT.set]); (repeat (first | refine VC.seq ?_ | refine VC.block ?_ | refine VC.kill ?_ | refine VC.skip ?_ | refine VC.exit ?_ | refine VC.regA ?_ | refine VC.condT ?_ | refine VC.condF ?_)); (refine VC.regCA ?_; refine VO.moreA ?_; refine VO.call0A (no_orc _ (by decide)) k ?_; refine VO.endA ?_; (repeat (first | refine VC.seq ?_ | refine VC.block ?_ | refine VC.kill ?_ | refine VC.skip ?_ | refine VC.exit ?_ | refine VC.regA ?_ | refine VC.condT ?_ | refine VC.condF ?_))); exact VC.ret (Fin.A rfl))
end
end Go.Ab.Dues

namespace Go.Ab.Dues
open Go.Ab.V
set_option maxRecDepth 100000
/-! ### Least, Greatest, Without -/
end Go.Ab.Dues

namespace Go.Ab.Dues
open Go.Ab.V
set_option maxRecDepth 100000
/-! ### All orders -/
end Go.Ab.Dues

namespace Go.Ab.Dues
/-! ### What the list of all orders is -/
end Go.Ab.Dues

namespace Go.Ab.Dues
/-! ### All orders: each list of all ships once -/
theorem nodup_len {l m : List Nat} (h : l.Nodup) (hs : ∀ a ∈ l, a ∈ m) : l.length ≤ m.length := by
  induction l generalizing m with
  | nil => exact Nat.zero_le _
  | cons a l ih =>
    rw [List.nodup_cons] at h
    have ha := hs a (.head _)
    have := ih (m := m.erase a) h.2 fun b hb => (List.mem_erase_of_ne (fun e => h.1 (by rw [← e]; exact hb))).2 (hs b (.tail _ hb))
    rw [List.length_erase_of_mem ha] at this
    have := List.length_pos_of_mem ha
    rw [List.length_cons]; omega
end Go.Ab.Dues

namespace Go.Ab.Dues
open Go.Ab.V
set_option maxRecDepth 100000
theorem openShip_arg (c : Can) (h : okC c) (x : Int) (hx : ¬(0 ≤ x ∧ x < c.ships.length)) : VCall cfg 72 [canV c, vi x] [] [] (.tup [nilP0, vi 1]) [] := by
  have k1 := open_ok c h
  have hnm := fl_nm c (needK c c.ships.length) p14
  generalize flC c (needK c c.ships.length) p14 = FL at *
  unfold canV at k1 ⊢
  (refine VCall.mk (fn := a72) rfl rfl rfl ?_; simp only [a72, inV, mkB, nmsL, PT.set])
  (repeat (first | refine VC.seq ?_ | refine VC.block ?_ | refine VC.kill ?_ | refine VC.skip ?_ | refine VC.exit ?_ | refine VC.regA ?_ | refine VC.condT ?_ | refine VC.condF ?_))
  refine VC.regCA ?_
  refine VO.moreA ?_
  refine VO.callN (no_orc 52 (by decide)) k1 rfl rfl rfl rfl rfl rfl ?_
  (simp only [filtN, filtNB, mkB, PT.set, VSt.put, PT.filt, noref, norefB, nos, nm, nmL, nmB, nmL_vi, nmL_map_p, nmE_ag, flV_nm, List.nil_append, List.append_nil, Pa.eqb, cond_true, cond_false, Bool.and_true, Bool.not_false, Bool.not_true])
  refine VO.endA ?_
  (repeat (first | refine VC.seq ?_ | refine VC.block ?_ | refine VC.kill ?_ | refine VC.skip ?_ | refine VC.exit ?_ | refine VC.regA ?_ | refine VC.condT ?_ | refine VC.condF ?_))
  by_cases h1 : x < 0
  · ((try (apply VC.regU; · (exact vF (decide_eq_true h1)))); (repeat (first | refine VC.seq ?_ | refine VC.block ?_ | refine VC.kill ?_ | refine VC.skip ?_ | refine VC.exit ?_ | refine VC.regA ?_ | refine VC.condT ?_ | refine VC.condF ?_)))
    exact VC.ret (Fin.A rfl)
  · have h2 : x ≥ (c.ships.length : Int) := by omega
    ((try (apply VC.regU; · (exact vF (And.intro (decide_eq_false h1) (decide_eq_true h2))))); (repeat (first | refine VC.seq ?_ | refine VC.block ?_ | refine VC.kill ?_ | refine VC.skip ?_ | refine VC.exit ?_ | refine VC.regA ?_ | refine VC.condT ?_ | refine VC.condF ?_)))
    exact VC.ret (Fin.A rfl)
theorem openSet_arg (c : Can) (h : okC c) (x : Int) (hx : ¬(0 ≤ x ∧ x < (2 ^ c.ships.length : Nat))) : VCall cfg 70 [canV c, vi x] [] [] (.tup [nilP0, vi 1]) [] := by
  have k1 := open_ok c h
  have k2 := all_ok c h.s7 (needK c c.ships.length) []
  have he : esM [] = [] := rfl
  rw [he] at k2
  have hnm := fl_nm c (needK c c.ships.length) p14
  generalize flC c (needK c c.ships.length) p14 = FL at *
  have hp0 : 0 < 2 ^ c.ships.length := Nat.pow_pos (by decide)
  have h2 : ¬x < 0 → x > ((2 ^ c.ships.length - 1 : Nat) : Int) := fun h1 => by omega
  generalize ((2 ^ c.ships.length - 1 : Nat) : Int) = A at *
  unfold canV at k1 ⊢
  (refine VCall.mk (fn := a70) rfl rfl rfl ?_; simp only [a70, inV, mkB, nmsL, PT.set])
  (repeat (first | refine VC.seq ?_ | refine VC.block ?_ | refine VC.kill ?_ | refine VC.skip ?_ | refine VC.exit ?_ | refine VC.regA ?_ | refine VC.condT ?_ | refine VC.condF ?_))
  refine VC.regCA ?_
  refine VO.moreA ?_
  refine VO.callN (no_orc 52 (by decide)) k1 rfl rfl rfl rfl rfl rfl ?_
  (simp only [filtN, filtNB, mkB, PT.set, VSt.put, PT.filt, noref, norefB, nos, nm, nmL, nmB, nmL_vi, nmL_map_p, nmE_ag, flV_nm, List.nil_append, List.append_nil, Pa.eqb, cond_true, cond_false, Bool.and_true, Bool.not_false, Bool.not_true])
  refine VO.endA ?_
  (repeat (first | refine VC.seq ?_ | refine VC.block ?_ | refine VC.kill ?_ | refine VC.skip ?_ | refine VC.exit ?_ | refine VC.regA ?_ | refine VC.condT ?_ | refine VC.condF ?_))
  by_cases h1 : x < 0
  · ((try (apply VC.regU; · (exact vF (decide_eq_true h1)))); (repeat (first | refine VC.seq ?_ | refine VC.block ?_ | refine VC.kill ?_ | refine VC.skip ?_ | refine VC.exit ?_ | refine VC.regA ?_ | refine VC.condT ?_ | refine VC.condF ?_)))
    exact VC.ret (Fin.A rfl)
  · have h2 := h2 h1
    refine VC.regCA ?_
    refine VO.moreA ?_
    refine VO.call [] [(p16, .cells FL), (p14, .map [])] (mkB [(p2, .cells [sl1 c.up, sl1 c.cost, sl1 c.ships])] .lf) rfl rfl (no_orc 57 (by decide)) k2 trivial ?_ ?_ rfl rfl rfl rfl rfl rfl rfl ?_
    · simp [mkB, PT.set, PT.Le, VSt.kill]
    · simp [mkB, PT.set, PT.Le, VSt.kill, sl1]
    (simp only [filtN, filtNB, mkB, PT.set, VSt.put, PT.filt, noref, norefB, nos, nm, nmL, nmB, nmL_vi, nmL_map_p, nmE_ag, flV_nm, List.nil_append, List.append_nil, Pa.eqb, cond_true, cond_false, Bool.and_true, Bool.not_false, Bool.not_true])
    refine VO.endA ?_
    (repeat (first | refine VC.seq ?_ | refine VC.block ?_ | refine VC.kill ?_ | refine VC.skip ?_ | refine VC.exit ?_ | refine VC.regA ?_ | refine VC.condT ?_ | refine VC.condF ?_))
    exact VC.ret (Fin.A rfl)
/-! ### Orders -/
def ordR (n : Nat) (l : List Int) : Prop := (∀ x ∈ l, 0 ≤ x ∧ x < n) ∧ l.Nodup ∧ l.length = n
/-- What is met of a list so far. -/
def met (l : List Int) : Nat := l.foldl (fun a x => a ||| 2 ^ x.toNat) 0
theorem met_bit (t : Nat) : ∀ (l : List Int) (b : Nat), (l.foldl (fun a (x : Int) => a ||| 2 ^ x.toNat) b).testBit t = (b.testBit t || l.any fun x => decide (x.toNat = t))
  | [], b => by simp
  | s :: l, b => by
    rw [List.foldl_cons, met_bit t l, Nat.testBit_or, Nat.testBit_two_pow, List.any_cons, Bool.or_assoc]
theorem met_snoc (l : List Int) (i : Nat) (h : i < l.length) : met (l.take (i + 1)) = met (l.take i) ||| 2 ^ l[i].toNat := by
  unfold met
  rw [List.take_add_one, List.getElem?_eq_getElem h, Option.toList_some, List.foldl_append]; rfl
theorem met_lt {n : Nat} (l : List Int) (h : ∀ x ∈ l, 0 ≤ x ∧ x < n) : met l < 2 ^ n := by
  unfold met
  have : ∀ (l : List Int) (b : Nat), b < 2 ^ n → (∀ x ∈ l, 0 ≤ x ∧ x < n) → l.foldl (fun a (x : Int) => a ||| 2 ^ x.toNat) b < 2 ^ n := by
    intro l
    induction l with
    | nil => intro b hb _; exact hb
    | cons s l ih =>
      intro b hb hl
      rw [List.foldl_cons]
      have := hl s (.head _)
      exact ih _ (Nat.or_lt_two_pow hb (Nat.pow_lt_pow_right (by decide) (by omega))) fun x hx => hl x (.tail _ hx)
  exact this l 0 (Nat.pow_pos (by decide)) h
/-- All met, by as many as there are: each once. -/
theorem met_all {n : Nat} {l : List Int} (h : ∀ x ∈ l, 0 ≤ x ∧ x < n) (hl : l.length = n) (hm : met l = 2 ^ n - 1) : ordR n l := by
  refine ⟨h, ?_, hl⟩
  have hsub : ∀ t ∈ List.range n, t ∈ l.map Int.toNat := fun t ht => by
    rw [List.mem_range] at ht
    have : (met l).testBit t = true := by rw [hm, Nat.testBit_two_pow_sub_one, decide_eq_true ht]
    unfold met at this
    rw [met_bit, Nat.zero_testBit, Bool.false_or, List.any_eq_true] at this
    obtain ⟨x, hx, e⟩ := this
    exact List.mem_map.2 ⟨x, hx, of_decide_eq_true e⟩
  have key : ∀ (l : List Int), (∀ x ∈ l, 0 ≤ x ∧ x < n) → l.length ≤ n → (∀ t ∈ List.range n, t ∈ l.map Int.toNat) → l.Nodup := by
    intro l hl hlen hs
    refine Decidable.byContradiction fun hn => ?_
    have : ∃ (a b : List Int) (x : Int), l = a ++ x :: b ∧ x ∈ b := by
      clear hl hlen hs
      induction l with
      | nil => exact absurd List.nodup_nil hn
      | cons y l ih =>
        by_cases hy : y ∈ l
        · exact ⟨[], l, y, rfl, hy⟩
        · have : ¬l.Nodup := fun h => hn (List.nodup_cons.2 ⟨hy, h⟩)
          obtain ⟨a, b, x, e, hx⟩ := ih this
          exact ⟨y :: a, b, x, by rw [e]; rfl, hx⟩
    obtain ⟨a, b, x, rfl, hx⟩ := this
    have := nodup_len (l := List.range n) (m := (a ++ b).map Int.toNat) List.nodup_range fun t ht => by
      have := hs t ht
      simp only [List.map_append, List.map_cons, List.mem_append, List.mem_cons] at this ⊢
      rcases this with h | rfl | h
      · exact .inl h
      · exact .inr (List.mem_map.2 ⟨x, hx, rfl⟩)
      · exact .inr h
    rw [List.length_range, List.length_map, List.length_append] at this
    rw [List.length_append, List.length_cons] at hlen
    omega
  exact key l h (by omega) hsub
set_option maxHeartbeats 8000000 in
theorem ByOrder_bad (c : Can) (h : okC c) (l : List Int) (hl8 : l.length ≤ 8) (hno : ¬ordR c.ships.length l) : VCall cfg 19 [canV c, sl1 l] [] [] (.tup [nilV, vi 1]) [] := by
  have k1 := open_ok c h
  have k2 := all_ok c h.s7 (needK c c.ships.length) []
  have he : esM [] = [] := rfl
  rw [he] at k2
  have h7 := h.s7
  have hnm := fl_nm c (needK c c.ships.length) p14
  generalize flC c (needK c c.ships.length) p14 = FL at *
  have hp7 : 2 ^ c.ships.length ≤ 128 := (show 2 ^ c.ships.length ≤ 2 ^ 7 from Nat.pow_le_pow_right (by decide) h7)
  have hp0 : 0 < 2 ^ c.ships.length := Nat.pow_pos (by decide)
  unfold canV at k1 ⊢
  (refine VCall.mk (fn := a19) rfl rfl rfl ?_; simp only [a19, inV, mkB, nmsL, PT.set])
  (repeat (first | refine VC.seq ?_ | refine VC.block ?_ | refine VC.kill ?_ | refine VC.skip ?_ | refine VC.exit ?_ | refine VC.regA ?_ | refine VC.condT ?_ | refine VC.condF ?_))
  refine VC.regCA ?_
  refine VO.moreA ?_
  refine VO.callN (no_orc 52 (by decide)) k1 rfl rfl rfl rfl rfl rfl ?_
  (simp only [filtN, filtNB, mkB, PT.set, VSt.put, PT.filt, noref, norefB, nos, nm, nmL, nmB, nmL_vi, nmL_map_p, nmE_ag, flV_nm, List.nil_append, List.append_nil, Pa.eqb, cond_true, cond_false, Bool.and_true, Bool.not_false, Bool.not_true])
  refine VO.endA ?_
  (repeat (first | refine VC.seq ?_ | refine VC.block ?_ | refine VC.kill ?_ | refine VC.skip ?_ | refine VC.exit ?_ | refine VC.regA ?_ | refine VC.condT ?_ | refine VC.condF ?_))
  refine VC.loopG (fun (i : Nat) => ⟨inV [p1, p2, p6, p8, p19, p20, p21] [sl1 l, .op 0 p2 0, .op 0 p16 0, vi (met (l.take i) : Nat), sl1 l, vi l.length, vi i] .lf, mkB [(p2, .cells [sl1 c.up, sl1 c.cost, sl1 c.ships]), (p16, .cells FL), (p14, .map [])] .lf, [], none⟩) (fun n i => n = l.length - i ∧ i ≤ l.length ∧ ∀ x ∈ l.take i, 0 ≤ x ∧ x < c.ships.length) (x := 0) ?_ ⟨rfl, Nat.zero_le _, fun x hx => by cases hx⟩ ?_
  · have h0 : met (l.take 0) = 0 := rfl
    (apply Go.Ab.V.G.weak; constructor <;> simp (config := {decide := true}) only [PT.Le, inV, mkB, PT.set, VSt.kill, VSt.adopt, VSt.alloc, PT.filt, PT.map, List.map_cons, List.map_nil, noref, norefB, deadB, deadV, nos, nm, nmL, nmB, nmE, Pa.eqb, cond_true, cond_false, Bool.not_true, Bool.not_false, Bool.and_true, Bool.true_and, nmL_vi, flV_len, flP_len, flV_nm, flV_ok, flV_pv, flP_map, drop_flP, drop_flV, putC_flV, eqV2, eqV3, bneT, bneF, decide_true, decide_false, frzL_vi, frzL_flV, nmE_ag, nmE_at, frzE_ag, frzE_at, ofAg_len, ofAt_len, atL_vi, nmL_map_p, frzL_map_p, okL_p, toPVs_p, repsZ, nmL_reps, putC_vi, get_flV0, get_flV1, Int.toNat_zero, Int.toNat_one, Int.reduceToNat, eqV_slice, eqV_ptr, eqV_func, nilS, nilP, nilF, nmL_append, true_or, or_true, and_self, true_and, and_true, Option.some.injEq, reduceCtorEq, false_or, or_false, VV.p.injEq, PV.at.injEq, Value.int.injEq, sl1, vi, bl1, vb, nilV, sl1, hnm, h0])
    (all_goals first | rfl | omega | exact ⟨rfl, by omega⟩)
  rintro n i ⟨hn, hi, hall⟩
  simp only [inV, PT.set, mkB]
  have hlt := met_lt (l.take i) hall
  have hsn := met_snoc l i
  have htk : ∀ hi : i < l.length, (0 ≤ l[i] ∧ l[i] < c.ships.length) → ∀ x ∈ l.take (i + 1), 0 ≤ x ∧ x < c.ships.length := fun hi hb x hx => by
    rw [List.take_add_one, List.getElem?_eq_getElem hi, Option.toList_some, List.mem_append, List.mem_singleton] at hx
    rcases hx with hx | rfl
    · exact hall x hx
    · exact hb
  have hend : i = l.length → l.length = c.ships.length → met (l.take i) ≠ 2 ^ c.ships.length - 1 := fun e e2 e3 => hno (by
    rw [e, List.take_length] at hall e3
    exact met_all hall e2 e3)
  generalize met (l.take i) = b at *
  clear hall
  (repeat (first | refine VC.seq ?_ | refine VC.block ?_ | refine VC.kill ?_ | refine VC.skip ?_ | refine VC.exit ?_ | refine VC.regA ?_ | refine VC.condT ?_ | refine VC.condF ?_))
  refine VC.condA ?_ ?_ <;> intro h' <;> (simp only [decide_eq_true_eq, decide_eq_false_iff_not, bne_iff_ne, ne_eq, bne_eq_false_iff_eq, beq_iff_eq, beq_eq_false_iff_ne, Bool.not_eq_true', Bool.not_eq_false', Bool.and_eq_true, Bool.or_eq_true, Int.natCast_inj] at h')
  · have h' : i < l.length := by omega
    have hsn := hsn h'
    have htk := htk h'
    by_cases g1 : l[i] < 0
    · (repeat (first | refine VC.seq ?_ | refine VC.block ?_ | refine VC.kill ?_ | refine VC.skip ?_ | refine VC.exit ?_ | refine VC.regA ?_ | refine VC.condT ?_ | refine VC.condF ?_))
      exact VC.ret (Fin.A rfl)
    · by_cases g2 : l[i] ≥ (c.ships.length : Int)
      · (repeat (first | refine VC.seq ?_ | refine VC.block ?_ | refine VC.kill ?_ | refine VC.skip ?_ | refine VC.exit ?_ | refine VC.regA ?_ | refine VC.condT ?_ | refine VC.condF ?_))
        exact VC.ret (Fin.A rfl)
      · have htk := htk (by omega)
        obtain ⟨s, hs⟩ := Int.eq_ofNat_of_zero_le (show 0 ≤ l[i] by omega)
        rw [hs] at g1 g2 hsn
        rw [Int.toNat_natCast] at hsn
        have hs7 : s < c.ships.length := by omega
        have hp7 : 2 ^ s < 128 := Nat.lt_of_lt_of_le (Nat.pow_lt_pow_right (by decide) hs7) (show 2 ^ c.ships.length ≤ 2 ^ 7 from Nat.pow_le_pow_right (by decide) h7)
        have hor := or_i64 (a := b) (b := 2 ^ s) (by omega) (by omega)
        have hmod : (s : Int) % 18446744073709551616 = (s : Int) := by omega
        have hsh := shl_one (n := s) (by omega)
        have hshw := shl_w (q := s) (by omega)
        have d1 : decide ((s : Int) < 0) = false := decide_eq_false (by omega)
        have d2 : decide ((s : Int) ≥ (c.ships.length : Int)) = false := decide_eq_false (by omega)
        generalize b ||| 2 ^ s = b2 at *
        generalize 2 ^ s = w at *
        (repeat (first | refine VC.seq ?_ | refine VC.block ?_ | refine VC.kill ?_ | refine VC.skip ?_ | refine VC.exit ?_ | refine VC.regA ?_ | refine VC.condT ?_ | refine VC.condF ?_))
        simp only [hs]
        (repeat (first | refine VC.seq ?_ | refine VC.block ?_ | refine VC.kill ?_ | refine VC.skip ?_ | refine VC.exit ?_ | refine VC.regA ?_ | refine VC.condT ?_ | refine VC.condF ?_))
        ((try (apply VC.regU; · (exact vF (And.intro hmod (And.intro hsh (And.intro hor (And.intro d1 d2))))))); (repeat (first | refine VC.seq ?_ | refine VC.block ?_ | refine VC.kill ?_ | refine VC.skip ?_ | refine VC.exit ?_ | refine VC.regA ?_ | refine VC.condT ?_ | refine VC.condF ?_)))
        refine ⟨_, i + 1, ?_, ⟨rfl, by omega, htk⟩, ?_⟩
        · omega
        · simp only [hmod, Int.toNat_natCast, hshw, hor]
          (apply Go.Ab.V.G.weak; constructor <;> simp (config := {decide := true}) only [PT.Le, inV, mkB, PT.set, VSt.kill, VSt.adopt, VSt.alloc, PT.filt, PT.map, List.map_cons, List.map_nil, noref, norefB, deadB, deadV, nos, nm, nmL, nmB, nmE, Pa.eqb, cond_true, cond_false, Bool.not_true, Bool.not_false, Bool.and_true, Bool.true_and, nmL_vi, flV_len, flP_len, flV_nm, flV_ok, flV_pv, flP_map, drop_flP, drop_flV, putC_flV, eqV2, eqV3, bneT, bneF, decide_true, decide_false, frzL_vi, frzL_flV, nmE_ag, nmE_at, frzE_ag, frzE_at, ofAg_len, ofAt_len, atL_vi, nmL_map_p, frzL_map_p, okL_p, toPVs_p, repsZ, nmL_reps, putC_vi, get_flV0, get_flV1, Int.toNat_zero, Int.toNat_one, Int.reduceToNat, eqV_slice, eqV_ptr, eqV_func, nilS, nilP, nilF, nmL_append, true_or, or_true, and_self, true_and, and_true, Option.some.injEq, reduceCtorEq, false_or, or_false, VV.p.injEq, PV.at.injEq, Value.int.injEq, sl1, vi, bl1, vb, nilV, sl1, hnm, hsn])
          (all_goals first | rfl | omega | exact ⟨rfl, by omega⟩)
  · have h' : i = l.length := by omega
    have hend := hend h'
    by_cases g1 : l.length = c.ships.length
    · have hend := hend g1
      have g3 : ¬(b : Int) = ((2 ^ c.ships.length - 1 : Nat) : Int) := by omega
      have g1' : (l.length : Int) = (c.ships.length : Int) := by omega
      generalize ((2 ^ c.ships.length - 1 : Nat) : Int) = A at *
      (repeat (first | refine VC.seq ?_ | refine VC.block ?_ | refine VC.kill ?_ | refine VC.skip ?_ | refine VC.exit ?_ | refine VC.regA ?_ | refine VC.condT ?_ | refine VC.condF ?_))
      refine VC.regCA ?_
      refine VO.moreA ?_
      refine VO.call [] [(p16, .cells FL), (p14, .map [])] (mkB [(p2, .cells [sl1 c.up, sl1 c.cost, sl1 c.ships])] .lf) rfl rfl (no_orc 57 (by decide)) k2 trivial ?_ ?_ rfl rfl rfl rfl rfl rfl rfl ?_
      · simp [mkB, PT.set, PT.Le, VSt.kill]
      · simp [mkB, PT.set, PT.Le, VSt.kill, sl1]
      (simp only [filtN, filtNB, mkB, PT.set, VSt.put, PT.filt, noref, norefB, nos, nm, nmL, nmB, nmL_vi, nmL_map_p, nmE_ag, flV_nm, List.nil_append, List.append_nil, Pa.eqb, cond_true, cond_false, Bool.and_true, Bool.not_false, Bool.not_true])
      refine VO.endA ?_
      (repeat (first | refine VC.seq ?_ | refine VC.block ?_ | refine VC.kill ?_ | refine VC.skip ?_ | refine VC.exit ?_ | refine VC.regA ?_ | refine VC.condT ?_ | refine VC.condF ?_))
      exact VC.ret (Fin.A rfl)
    · have g1' : ¬(l.length : Int) = (c.ships.length : Int) := by omega
      (repeat (first | refine VC.seq ?_ | refine VC.block ?_ | refine VC.kill ?_ | refine VC.skip ?_ | refine VC.exit ?_ | refine VC.regA ?_ | refine VC.condT ?_ | refine VC.condF ?_))
      exact VC.ret (Fin.A rfl)
theorem take_nodup {l : List Int} {i : Nat} (h : i < l.length) (hn : (l.take i).Nodup) (hx : l[i] ∉ l.take i) : (l.take (i + 1)).Nodup := by
  rw [List.take_add_one, List.getElem?_eq_getElem h, Option.toList_some, List.nodup_append]
  exact ⟨hn, by simp, fun a ha b hb e => by rw [List.mem_singleton] at hb; subst hb; subst e; exact hx ha⟩
set_option maxHeartbeats 8000000 in
theorem ROrder_any (c : Can) (h7 : c.ships.length ≤ 7) (l : List Int) (hl8 : l.length ≤ 8) (r : Bool) (hr : r = true ↔ ordR c.ships.length l) : VCall cfg 51 [canV c, sl1 l] [] [] (vb r) [] := by
  have no : ¬ordR c.ships.length l → r = false := fun h => by cases r with | false => rfl | true => exact absurd (hr.1 rfl) h
  have hyes : (∀ x ∈ l, 0 ≤ x ∧ x < c.ships.length) → l.Nodup → r = decide ((l.length : Int) = (c.ships.length : Int)) := fun h1 h2 => by
    by_cases e : l.length = c.ships.length
    · rw [hr.2 ⟨h1, h2, e⟩, decide_eq_true (by omega)]
    · rw [no fun h => e h.2.2, decide_eq_false (by omega)]
  clear hr
  unfold canV
  (refine VCall.mk (fn := a51) rfl rfl rfl ?_; simp only [a51, inV, mkB, nmsL, PT.set])
  (repeat (first | refine VC.seq ?_ | refine VC.block ?_ | refine VC.kill ?_ | refine VC.skip ?_ | refine VC.exit ?_ | refine VC.regA ?_ | refine VC.condT ?_ | refine VC.condF ?_))
  refine VC.loopG (fun (i : Nat) => ⟨inV [p1, p2, p5, p6] [sl1 l, .op 0 p2 0, vi (met (l.take i) : Nat), vi i] .lf, mkB [(p2, .cells [sl1 c.up, sl1 c.cost, sl1 c.ships])] .lf, [], none⟩) (fun n i => n = l.length - i ∧ i ≤ l.length ∧ (∀ x ∈ l.take i, 0 ≤ x ∧ x < c.ships.length) ∧ (l.take i).Nodup) (x := 0) ?_ ⟨rfl, Nat.zero_le _, (fun x hx => by cases hx), List.nodup_nil⟩ ?_
  · have h0 : met (l.take 0) = 0 := rfl
    (apply Go.Ab.V.G.weak; constructor <;> simp (config := {decide := true}) only [PT.Le, inV, mkB, PT.set, VSt.kill, VSt.adopt, VSt.alloc, PT.filt, PT.map, List.map_cons, List.map_nil, noref, norefB, deadB, deadV, nos, nm, nmL, nmB, nmE, Pa.eqb, cond_true, cond_false, Bool.not_true, Bool.not_false, Bool.and_true, Bool.true_and, nmL_vi, flV_len, flP_len, flV_nm, flV_ok, flV_pv, flP_map, drop_flP, drop_flV, putC_flV, eqV2, eqV3, bneT, bneF, decide_true, decide_false, frzL_vi, frzL_flV, nmE_ag, nmE_at, frzE_ag, frzE_at, ofAg_len, ofAt_len, atL_vi, nmL_map_p, frzL_map_p, okL_p, toPVs_p, repsZ, nmL_reps, putC_vi, get_flV0, get_flV1, Int.toNat_zero, Int.toNat_one, Int.reduceToNat, eqV_slice, eqV_ptr, eqV_func, nilS, nilP, nilF, nmL_append, true_or, or_true, and_self, true_and, and_true, Option.some.injEq, reduceCtorEq, false_or, or_false, VV.p.injEq, PV.at.injEq, Value.int.injEq, sl1, vi, bl1, vb, nilV, sl1, h0])
    (all_goals first | rfl | omega | exact ⟨rfl, by omega⟩)
  rintro n i ⟨hn, hi, hall, hnd⟩
  simp only [inV, PT.set, mkB]
  have hlt := met_lt (l.take i) hall
  have hp7 : 2 ^ c.ships.length ≤ 128 := (show 2 ^ c.ships.length ≤ 2 ^ 7 from Nat.pow_le_pow_right (by decide) h7)
  have hsn := met_snoc l i
  have hbit : ∀ t, (met (l.take i)).testBit t = (l.take i).any fun x => decide (x.toNat = t) := fun t => by unfold met; rw [met_bit]; simp
  generalize met (l.take i) = b at *
  (repeat (first | refine VC.seq ?_ | refine VC.block ?_ | refine VC.kill ?_ | refine VC.skip ?_ | refine VC.exit ?_ | refine VC.regA ?_ | refine VC.condT ?_ | refine VC.condF ?_))
  refine VC.condA ?_ ?_ <;> intro h' <;> (simp only [decide_eq_true_eq, decide_eq_false_iff_not, bne_iff_ne, ne_eq, bne_eq_false_iff_eq, beq_iff_eq, beq_eq_false_iff_ne, Bool.not_eq_true', Bool.not_eq_false', Bool.and_eq_true, Bool.or_eq_true, Int.natCast_inj] at h')
  · have h' : i < l.length := by omega
    have hsn := hsn h'
    by_cases g1 : l[i] < 0
    · rw [no fun h => by have := h.1 _ (List.getElem_mem h'); omega]
      clear hall hbit
      (repeat (first | refine VC.seq ?_ | refine VC.block ?_ | refine VC.kill ?_ | refine VC.skip ?_ | refine VC.exit ?_ | refine VC.regA ?_ | refine VC.condT ?_ | refine VC.condF ?_))
      exact VC.ret (Fin.A rfl)
    · by_cases g2 : l[i] ≥ (c.ships.length : Int)
      · rw [no fun h => by have := h.1 _ (List.getElem_mem h'); omega]
        clear hall hbit
        (repeat (first | refine VC.seq ?_ | refine VC.block ?_ | refine VC.kill ?_ | refine VC.skip ?_ | refine VC.exit ?_ | refine VC.regA ?_ | refine VC.condT ?_ | refine VC.condF ?_))
        exact VC.ret (Fin.A rfl)
      · obtain ⟨s, hs⟩ := Int.eq_ofNat_of_zero_le (show 0 ≤ l[i] by omega)
        have hs7 : s < c.ships.length := by omega
        have hfd := shr_i64 (a := b) (n := s) (by omega)
        have hbm := bit_mod b s
        have hbs := hbit s
        generalize hw : b >>> s = w at *
        have htm : (w : Int).tmod 2 = ((w % 2 : Nat) : Int) := by rw [Int.tmod_eq_emod_of_nonneg (by omega)]; omega
        have d1 : decide ((s : Int) < 0) = false := decide_eq_false (by omega)
        have d2 : decide ((s : Int) ≥ (c.ships.length : Int)) = false := decide_eq_false (by omega)
        have hmem : l[i] ∈ l.take i ↔ b.testBit s = true := by
          rw [hbs, List.any_eq_true]
          constructor
          · intro hm; exact ⟨_, hm, by rw [hs]; simp⟩
          · rintro ⟨x, hx, e⟩
            have := hall x hx
            have e := of_decide_eq_true e
            have : l[i] = x := by omega
            rw [this]; exact hx
        cases hbt : b.testBit s with
        | true =>
          rw [no fun h => by
            obtain ⟨k, hk, e⟩ := List.mem_iff_getElem.1 (hmem.2 hbt)
            rw [List.getElem_take] at e
            have hk2 : k < i := by rw [List.length_take] at hk; omega
            exact absurd e ((List.nodup_iff_pairwise_ne.1 h.2.1 |> List.pairwise_iff_getElem.1) k i (by omega) h' hk2)]
          rw [hbt] at hbm
          simp only [if_true] at hbm
          rw [hbm] at htm
          clear hall hbit hmem hbs
          (repeat (first | refine VC.seq ?_ | refine VC.block ?_ | refine VC.kill ?_ | refine VC.skip ?_ | refine VC.exit ?_ | refine VC.regA ?_ | refine VC.condT ?_ | refine VC.condF ?_))
          have htm : (w : Int).tmod 2 = 1 := htm
          ((try (apply VC.regU; · (exact vF (And.intro hs (And.intro hfd (And.intro htm (And.intro d1 d2))))))); (repeat (first | refine VC.seq ?_ | refine VC.block ?_ | refine VC.kill ?_ | refine VC.skip ?_ | refine VC.exit ?_ | refine VC.regA ?_ | refine VC.condT ?_ | refine VC.condF ?_)))
          exact VC.ret (Fin.A rfl)
        | false =>
          have htk : ∀ x ∈ l.take (i + 1), 0 ≤ x ∧ x < c.ships.length := fun x hx => by
            rw [List.take_add_one, List.getElem?_eq_getElem h', Option.toList_some, List.mem_append, List.mem_singleton] at hx
            rcases hx with hx | rfl
            · exact hall x hx
            · omega
          have hnd' := take_nodup h' hnd (fun hm => by rw [hmem.1 hm] at hbt; cases hbt)
          rw [hbt] at hbm
          simp only [Bool.false_eq_true, if_false] at hbm
          rw [hbm] at htm
          have htm : (w : Int).tmod 2 = 0 := htm
          rw [hs, Int.toNat_natCast] at hsn
          have hp7 : 2 ^ s < 128 := Nat.lt_of_lt_of_le (Nat.pow_lt_pow_right (by decide) hs7) (show 2 ^ c.ships.length ≤ 2 ^ 7 from Nat.pow_le_pow_right (by decide) h7)
          have hor := or_i64 (a := b) (b := 2 ^ s) (by omega) (by omega)
          have hsh := shl_one (n := s) (by omega)
          have hshw := shl_w (q := s) (by omega)
          clear hall hbit hmem hbs hnd
          generalize b ||| 2 ^ s = b2 at *
          generalize 2 ^ s = w2 at *
          (repeat (first | refine VC.seq ?_ | refine VC.block ?_ | refine VC.kill ?_ | refine VC.skip ?_ | refine VC.exit ?_ | refine VC.regA ?_ | refine VC.condT ?_ | refine VC.condF ?_))
          apply VC.regU
          · exact vF (And.intro hs (And.intro hfd (And.intro htm (And.intro d1 d2))))
          (repeat (first | refine VC.seq ?_ | refine VC.block ?_ | refine VC.kill ?_ | refine VC.skip ?_ | refine VC.exit ?_ | refine VC.regA ?_ | refine VC.condT ?_ | refine VC.condF ?_))
          ((try (apply VC.regU; · (exact vF (And.intro hs (And.intro hsh hor))))); (repeat (first | refine VC.seq ?_ | refine VC.block ?_ | refine VC.kill ?_ | refine VC.skip ?_ | refine VC.exit ?_ | refine VC.regA ?_ | refine VC.condT ?_ | refine VC.condF ?_)))
          refine ⟨_, i + 1, ?_, ⟨rfl, by omega, htk, hnd'⟩, ?_⟩
          · omega
          · (apply Go.Ab.V.G.weak; constructor <;> simp (config := {decide := true}) only [PT.Le, inV, mkB, PT.set, VSt.kill, VSt.adopt, VSt.alloc, PT.filt, PT.map, List.map_cons, List.map_nil, noref, norefB, deadB, deadV, nos, nm, nmL, nmB, nmE, Pa.eqb, cond_true, cond_false, Bool.not_true, Bool.not_false, Bool.and_true, Bool.true_and, nmL_vi, flV_len, flP_len, flV_nm, flV_ok, flV_pv, flP_map, drop_flP, drop_flV, putC_flV, eqV2, eqV3, bneT, bneF, decide_true, decide_false, frzL_vi, frzL_flV, nmE_ag, nmE_at, frzE_ag, frzE_at, ofAg_len, ofAt_len, atL_vi, nmL_map_p, frzL_map_p, okL_p, toPVs_p, repsZ, nmL_reps, putC_vi, get_flV0, get_flV1, Int.toNat_zero, Int.toNat_one, Int.reduceToNat, eqV_slice, eqV_ptr, eqV_func, nilS, nilP, nilF, nmL_append, true_or, or_true, and_self, true_and, and_true, Option.some.injEq, reduceCtorEq, false_or, or_false, VV.p.injEq, PV.at.injEq, Value.int.injEq, sl1, vi, bl1, vb, nilV, sl1, hsn])
            (all_goals first | rfl | omega | exact ⟨rfl, by omega⟩)
  · have h' : i = l.length := by omega
    subst h'
    rw [List.take_length] at hall hnd
    rw [hyes hall hnd]
    clear hall
    (repeat (first | refine VC.seq ?_ | refine VC.block ?_ | refine VC.kill ?_ | refine VC.skip ?_ | refine VC.exit ?_ | refine VC.regA ?_ | refine VC.condT ?_ | refine VC.condF ?_))
    exact VC.ret (Fin.A rfl)
end Go.Ab.Dues
