/-
  Written by a program of mine (gen.py): for functions of this translation a predicate transformer over heaps (.pt), and the proof that it is sound for the call (.link).
-/
import Derived.Test.YtfohlkiikppefaaFnsC
set_option linter.unusedSimpArgs false
set_option linter.unusedVariables false
set_option maxHeartbeats 1000000
namespace Go.Proofs.Ytfohlkiikppefaa
open Go
/-! moraine/morainelaw20.FrameLexical -/
noncomputable def morainelaw20_FrameLexical.k0 : Code := Func.code Try.f5
noncomputable def morainelaw20_FrameLexical.k1 : Code := Code.fa morainelaw20_FrameLexical.k0
noncomputable def morainelaw20_FrameLexical.k2 : Code := Code.fb morainelaw20_FrameLexical.k0
noncomputable def morainelaw20_FrameLexical.k3 : Code := Code.fa morainelaw20_FrameLexical.k2
noncomputable def morainelaw20_FrameLexical.k4 : Code := Code.fb morainelaw20_FrameLexical.k2
noncomputable def morainelaw20_FrameLexical.k5 : Code := Code.fa morainelaw20_FrameLexical.k4
noncomputable def morainelaw20_FrameLexical.k6 : Code := Code.fb morainelaw20_FrameLexical.k4
noncomputable def morainelaw20_FrameLexical.k7 : Code := Code.fa morainelaw20_FrameLexical.k5
noncomputable def morainelaw20_FrameLexical.k8 : Code := Code.fb morainelaw20_FrameLexical.k5
noncomputable def morainelaw20_FrameLexical.k9 : Code := Code.fa morainelaw20_FrameLexical.k8
noncomputable def morainelaw20_FrameLexical.k10 : Code := Code.fb morainelaw20_FrameLexical.k8
noncomputable def morainelaw20_FrameLexical.k11 : Code := Code.fa morainelaw20_FrameLexical.k9
noncomputable def morainelaw20_FrameLexical.k12 : Code := Code.fb morainelaw20_FrameLexical.k9
noncomputable def morainelaw20_FrameLexical.k13 : Code := Code.fa morainelaw20_FrameLexical.k6
noncomputable def morainelaw20_FrameLexical.k14 : Code := Code.fb morainelaw20_FrameLexical.k6
noncomputable def morainelaw20_FrameLexical.k15 : Code := Code.fa morainelaw20_FrameLexical.k14
noncomputable def morainelaw20_FrameLexical.k16 : Code := Code.fb morainelaw20_FrameLexical.k14
noncomputable def morainelaw20_FrameLexical.k17 : Code := Code.fa morainelaw20_FrameLexical.k15
noncomputable def morainelaw20_FrameLexical.k18 : Code := Code.fb morainelaw20_FrameLexical.k15
noncomputable def morainelaw20_FrameLexical.k19 : Code := Code.fa morainelaw20_FrameLexical.k18
noncomputable def morainelaw20_FrameLexical.k20 : Code := Code.fa morainelaw20_FrameLexical.k19
noncomputable def morainelaw20_FrameLexical.k21 : Code := Code.fa morainelaw20_FrameLexical.k20
noncomputable def morainelaw20_FrameLexical.k22 : Code := Code.fb morainelaw20_FrameLexical.k20
noncomputable def morainelaw20_FrameLexical.k23 : Code := Code.fa morainelaw20_FrameLexical.k21
noncomputable def morainelaw20_FrameLexical.k24 : Code := Code.fb morainelaw20_FrameLexical.k21
noncomputable def morainelaw20_FrameLexical.k25 : Code := Code.fa morainelaw20_FrameLexical.k24
noncomputable def morainelaw20_FrameLexical.k26 : Code := Code.fb morainelaw20_FrameLexical.k24
noncomputable def morainelaw20_FrameLexical.k27 : Code := Code.fa morainelaw20_FrameLexical.k22
noncomputable def morainelaw20_FrameLexical.k28 : Code := Code.fb morainelaw20_FrameLexical.k22
noncomputable def morainelaw20_FrameLexical.k29 : Code := Code.fa morainelaw20_FrameLexical.k27
noncomputable def morainelaw20_FrameLexical.k30 : Code := Code.fa morainelaw20_FrameLexical.k29
noncomputable def morainelaw20_FrameLexical.k31 : Code := Code.fb morainelaw20_FrameLexical.k29
noncomputable def morainelaw20_FrameLexical.k32 : Code := Code.fa morainelaw20_FrameLexical.k31
noncomputable def morainelaw20_FrameLexical.k33 : Code := Code.fb morainelaw20_FrameLexical.k31
noncomputable def morainelaw20_FrameLexical.k34 : Code := Code.fa morainelaw20_FrameLexical.k32
noncomputable def morainelaw20_FrameLexical.k35 : Code := Code.fb morainelaw20_FrameLexical.k32
noncomputable def morainelaw20_FrameLexical.k36 : Code := Code.fa morainelaw20_FrameLexical.k35
noncomputable def morainelaw20_FrameLexical.k37 : Code := Code.fb morainelaw20_FrameLexical.k35
noncomputable def morainelaw20_FrameLexical.k38 : Code := Code.fa morainelaw20_FrameLexical.k36
noncomputable def morainelaw20_FrameLexical.k39 : Code := Code.fb morainelaw20_FrameLexical.k36
noncomputable def morainelaw20_FrameLexical.k40 : Code := Code.fa morainelaw20_FrameLexical.k33
noncomputable def morainelaw20_FrameLexical.k41 : Code := Code.fb morainelaw20_FrameLexical.k33
noncomputable def morainelaw20_FrameLexical.k42 : Code := Code.fa morainelaw20_FrameLexical.k41
noncomputable def morainelaw20_FrameLexical.k43 : Code := Code.fb morainelaw20_FrameLexical.k41
noncomputable def morainelaw20_FrameLexical.k44 : Code := Code.fa morainelaw20_FrameLexical.k42
noncomputable def morainelaw20_FrameLexical.k45 : Code := Code.fb morainelaw20_FrameLexical.k42
noncomputable def morainelaw20_FrameLexical.k46 : Code := Code.fa morainelaw20_FrameLexical.k45
noncomputable def morainelaw20_FrameLexical.k47 : Code := Code.fb morainelaw20_FrameLexical.k45
noncomputable def morainelaw20_FrameLexical.k48 : Code := Code.fa morainelaw20_FrameLexical.k46
noncomputable def morainelaw20_FrameLexical.k49 : Code := Code.fb morainelaw20_FrameLexical.k46
noncomputable def morainelaw20_FrameLexical.k50 : Code := Code.fa morainelaw20_FrameLexical.k49
noncomputable def morainelaw20_FrameLexical.k51 : Code := Code.fb morainelaw20_FrameLexical.k49
noncomputable def morainelaw20_FrameLexical.k52 : Code := Code.fa morainelaw20_FrameLexical.k51
noncomputable def morainelaw20_FrameLexical.k53 : Code := Code.fb morainelaw20_FrameLexical.k51
noncomputable def morainelaw20_FrameLexical.k54 : Code := Code.fa morainelaw20_FrameLexical.k52
noncomputable def morainelaw20_FrameLexical.k55 : Code := Code.fb morainelaw20_FrameLexical.k52
noncomputable def morainelaw20_FrameLexical.k56 : Code := Code.fa morainelaw20_FrameLexical.k55
noncomputable def morainelaw20_FrameLexical.k57 : Code := Code.fa morainelaw20_FrameLexical.k56
noncomputable def morainelaw20_FrameLexical.k58 : Code := Code.fa morainelaw20_FrameLexical.k57
noncomputable def morainelaw20_FrameLexical.k59 : Code := Code.fb morainelaw20_FrameLexical.k57
noncomputable def morainelaw20_FrameLexical.k60 : Code := Code.fa morainelaw20_FrameLexical.k58
noncomputable def morainelaw20_FrameLexical.k61 : Code := Code.fb morainelaw20_FrameLexical.k58
noncomputable def morainelaw20_FrameLexical.k62 : Code := Code.fa morainelaw20_FrameLexical.k61
noncomputable def morainelaw20_FrameLexical.k63 : Code := Code.fb morainelaw20_FrameLexical.k61
noncomputable def morainelaw20_FrameLexical.k64 : Code := Code.fa morainelaw20_FrameLexical.k59
noncomputable def morainelaw20_FrameLexical.k65 : Code := Code.fb morainelaw20_FrameLexical.k59
noncomputable def morainelaw20_FrameLexical.k66 : Code := Code.fa morainelaw20_FrameLexical.k64
noncomputable def morainelaw20_FrameLexical.k67 : Code := Code.fa morainelaw20_FrameLexical.k53
noncomputable def morainelaw20_FrameLexical.k68 : Code := Code.fb morainelaw20_FrameLexical.k53
noncomputable def morainelaw20_FrameLexical.k69 : Code := Code.fa morainelaw20_FrameLexical.k67
noncomputable def morainelaw20_FrameLexical.k70 : Code := Code.fb morainelaw20_FrameLexical.k67
noncomputable def morainelaw20_FrameLexical.k71 : Code := Code.fa morainelaw20_FrameLexical.k70
noncomputable def morainelaw20_FrameLexical.k72 : Code := Code.fb morainelaw20_FrameLexical.k70
noncomputable def morainelaw20_FrameLexical.k73 : Code := Code.fa morainelaw20_FrameLexical.k68
noncomputable def morainelaw20_FrameLexical.k74 : Code := Code.fb morainelaw20_FrameLexical.k68
noncomputable def morainelaw20_FrameLexical.k75 : Code := Code.fa morainelaw20_FrameLexical.k74
noncomputable def morainelaw20_FrameLexical.k76 : Code := Code.fb morainelaw20_FrameLexical.k74
noncomputable def morainelaw20_FrameLexical.k77 : Code := Code.fa morainelaw20_FrameLexical.k76
noncomputable def morainelaw20_FrameLexical.k78 : Code := Code.fb morainelaw20_FrameLexical.k76
noncomputable def morainelaw20_FrameLexical.k79 : Code := Code.fa morainelaw20_FrameLexical.k77
noncomputable def morainelaw20_FrameLexical.k80 : Code := Code.fb morainelaw20_FrameLexical.k77
noncomputable def morainelaw20_FrameLexical.k81 : Code := Code.fa morainelaw20_FrameLexical.k80
noncomputable def morainelaw20_FrameLexical.k82 : Code := Code.fb morainelaw20_FrameLexical.k80
noncomputable def morainelaw20_FrameLexical.k83 : Code := Code.fa morainelaw20_FrameLexical.k78
noncomputable def morainelaw20_FrameLexical.k84 : Code := Code.fb morainelaw20_FrameLexical.k78
noncomputable def morainelaw20_FrameLexical.k85 : Code := Code.fa morainelaw20_FrameLexical.k83
noncomputable def morainelaw20_FrameLexical.k86 : Code := Code.fb morainelaw20_FrameLexical.k83
noncomputable def morainelaw20_FrameLexical.k87 : Code := Code.fa morainelaw20_FrameLexical.k86
noncomputable def morainelaw20_FrameLexical.k88 : Code := Code.fb morainelaw20_FrameLexical.k86
noncomputable def morainelaw20_FrameLexical.k89 : Code := Code.fa morainelaw20_FrameLexical.k81
noncomputable def morainelaw20_FrameLexical.k90 : Code := Code.fb morainelaw20_FrameLexical.k81
noncomputable def morainelaw20_FrameLexical.k91 : Code := Code.fa morainelaw20_FrameLexical.k43
noncomputable def morainelaw20_FrameLexical.k92 : Code := Code.fb morainelaw20_FrameLexical.k43
noncomputable def morainelaw20_FrameLexical.k93 : Code := Code.fa morainelaw20_FrameLexical.k92
noncomputable def morainelaw20_FrameLexical.k94 : Code := Code.fb morainelaw20_FrameLexical.k92
noncomputable def morainelaw20_FrameLexical.k95 : Code := Code.fa morainelaw20_FrameLexical.k94
noncomputable def morainelaw20_FrameLexical.k96 : Code := Code.fb morainelaw20_FrameLexical.k94
noncomputable def morainelaw20_FrameLexical.k97 : Code := Code.fa morainelaw20_FrameLexical.k95
noncomputable def morainelaw20_FrameLexical.k98 : Code := Code.fb morainelaw20_FrameLexical.k95
noncomputable def morainelaw20_FrameLexical.k99 : Code := Code.fa morainelaw20_FrameLexical.k98
noncomputable def morainelaw20_FrameLexical.k100 : Code := Code.fb morainelaw20_FrameLexical.k98
noncomputable def morainelaw20_FrameLexical.k101 : Code := Code.fa morainelaw20_FrameLexical.k96
noncomputable def morainelaw20_FrameLexical.k102 : Code := Code.fb morainelaw20_FrameLexical.k96
noncomputable def morainelaw20_FrameLexical.k103 : Code := Code.fa morainelaw20_FrameLexical.k101
noncomputable def morainelaw20_FrameLexical.k104 : Code := Code.fb morainelaw20_FrameLexical.k101
noncomputable def morainelaw20_FrameLexical.k105 : Code := Code.fa morainelaw20_FrameLexical.k104
noncomputable def morainelaw20_FrameLexical.k106 : Code := Code.fa morainelaw20_FrameLexical.k105
noncomputable def morainelaw20_FrameLexical.k107 : Code := Code.fa morainelaw20_FrameLexical.k106
noncomputable def morainelaw20_FrameLexical.k108 : Code := Code.fb morainelaw20_FrameLexical.k106
noncomputable def morainelaw20_FrameLexical.k109 : Code := Code.fa morainelaw20_FrameLexical.k107
noncomputable def morainelaw20_FrameLexical.k110 : Code := Code.fb morainelaw20_FrameLexical.k107
noncomputable def morainelaw20_FrameLexical.k111 : Code := Code.fa morainelaw20_FrameLexical.k110
noncomputable def morainelaw20_FrameLexical.k112 : Code := Code.fb morainelaw20_FrameLexical.k110
noncomputable def morainelaw20_FrameLexical.k113 : Code := Code.fa morainelaw20_FrameLexical.k108
noncomputable def morainelaw20_FrameLexical.k114 : Code := Code.fb morainelaw20_FrameLexical.k108
noncomputable def morainelaw20_FrameLexical.k115 : Code := Code.fa morainelaw20_FrameLexical.k113
noncomputable def morainelaw20_FrameLexical.k116 : Code := Code.fa morainelaw20_FrameLexical.k102
noncomputable def morainelaw20_FrameLexical.k117 : Code := Code.fb morainelaw20_FrameLexical.k102
noncomputable def morainelaw20_FrameLexical.k118 : Code := Code.fa morainelaw20_FrameLexical.k117
noncomputable def morainelaw20_FrameLexical.k119 : Code := Code.fb morainelaw20_FrameLexical.k117
noncomputable def morainelaw20_FrameLexical.k120 : Code := Code.fa morainelaw20_FrameLexical.k118
noncomputable def morainelaw20_FrameLexical.k121 : Code := Code.fb morainelaw20_FrameLexical.k118
noncomputable def morainelaw20_FrameLexical.k122 : Code := Code.fa morainelaw20_FrameLexical.k121
noncomputable def morainelaw20_FrameLexical.k123 : Code := Code.fb morainelaw20_FrameLexical.k121
noncomputable def morainelaw20_FrameLexical.k124 : Code := Code.fa morainelaw20_FrameLexical.k119
noncomputable def morainelaw20_FrameLexical.k125 : Code := Code.fb morainelaw20_FrameLexical.k119
noncomputable def morainelaw20_FrameLexical.k126 : Code := Code.fa morainelaw20_FrameLexical.k125
noncomputable def morainelaw20_FrameLexical.k127 : Code := Code.fb morainelaw20_FrameLexical.k125
noncomputable def morainelaw20_FrameLexical.k128 : Code := Code.fa morainelaw20_FrameLexical.k122
noncomputable def morainelaw20_FrameLexical.k129 : Code := Code.fb morainelaw20_FrameLexical.k122
noncomputable def morainelaw20_FrameLexical.k130 : Code := Code.fa morainelaw20_FrameLexical.k16
noncomputable def morainelaw20_FrameLexical.k131 : Code := Code.fb morainelaw20_FrameLexical.k16
noncomputable def morainelaw20_FrameLexical.k132 : Code := Code.fa morainelaw20_FrameLexical.k130
noncomputable def morainelaw20_FrameLexical.k133 : Code := Code.fb morainelaw20_FrameLexical.k130
noncomputable def morainelaw20_FrameLexical.k134 : Code := Code.fa morainelaw20_FrameLexical.k133
noncomputable def morainelaw20_FrameLexical.k135 : Code := Code.fa morainelaw20_FrameLexical.k134
noncomputable def morainelaw20_FrameLexical.k136 : Code := Code.fa morainelaw20_FrameLexical.k135
noncomputable def morainelaw20_FrameLexical.k137 : Code := Code.fb morainelaw20_FrameLexical.k135
noncomputable def morainelaw20_FrameLexical.k138 : Code := Code.fa morainelaw20_FrameLexical.k136
noncomputable def morainelaw20_FrameLexical.k139 : Code := Code.fb morainelaw20_FrameLexical.k136
noncomputable def morainelaw20_FrameLexical.k140 : Code := Code.fa morainelaw20_FrameLexical.k139
noncomputable def morainelaw20_FrameLexical.k141 : Code := Code.fb morainelaw20_FrameLexical.k139
noncomputable def morainelaw20_FrameLexical.k142 : Code := Code.fa morainelaw20_FrameLexical.k137
noncomputable def morainelaw20_FrameLexical.k143 : Code := Code.fb morainelaw20_FrameLexical.k137
noncomputable def morainelaw20_FrameLexical.k144 : Code := Code.fa morainelaw20_FrameLexical.k142
noncomputable def morainelaw20_FrameLexical.k145 : Code := Code.fa morainelaw20_FrameLexical.k144
noncomputable def morainelaw20_FrameLexical.k146 : Code := Code.fb morainelaw20_FrameLexical.k144
noncomputable def morainelaw20_FrameLexical.k147 : Code := Code.fa morainelaw20_FrameLexical.k146
noncomputable def morainelaw20_FrameLexical.k148 : Code := Code.fb morainelaw20_FrameLexical.k146
noncomputable def morainelaw20_FrameLexical.k149 : Code := Code.fa morainelaw20_FrameLexical.k147
noncomputable def morainelaw20_FrameLexical.k150 : Code := Code.fb morainelaw20_FrameLexical.k147
noncomputable def morainelaw20_FrameLexical.k151 : Code := Code.fa morainelaw20_FrameLexical.k150
noncomputable def morainelaw20_FrameLexical.k152 : Code := Code.fa morainelaw20_FrameLexical.k151
noncomputable def morainelaw20_FrameLexical.k153 : Code := Code.fa morainelaw20_FrameLexical.k152
noncomputable def morainelaw20_FrameLexical.k154 : Code := Code.fb morainelaw20_FrameLexical.k152
noncomputable def morainelaw20_FrameLexical.k155 : Code := Code.fa morainelaw20_FrameLexical.k153
noncomputable def morainelaw20_FrameLexical.k156 : Code := Code.fb morainelaw20_FrameLexical.k153
noncomputable def morainelaw20_FrameLexical.k157 : Code := Code.fa morainelaw20_FrameLexical.k156
noncomputable def morainelaw20_FrameLexical.k158 : Code := Code.fb morainelaw20_FrameLexical.k156
noncomputable def morainelaw20_FrameLexical.k159 : Code := Code.fa morainelaw20_FrameLexical.k154
noncomputable def morainelaw20_FrameLexical.k160 : Code := Code.fb morainelaw20_FrameLexical.k154
noncomputable def morainelaw20_FrameLexical.k161 : Code := Code.fa morainelaw20_FrameLexical.k159
noncomputable def morainelaw20_FrameLexical.k162 : Code := Code.fa morainelaw20_FrameLexical.k161
noncomputable def morainelaw20_FrameLexical.k163 : Code := Code.fb morainelaw20_FrameLexical.k161
noncomputable def morainelaw20_FrameLexical.k164 : Code := Code.fa morainelaw20_FrameLexical.k162
noncomputable def morainelaw20_FrameLexical.k165 : Code := Code.fb morainelaw20_FrameLexical.k162
noncomputable def morainelaw20_FrameLexical.k166 : Code := Code.fa morainelaw20_FrameLexical.k165
noncomputable def morainelaw20_FrameLexical.k167 : Code := Code.fa morainelaw20_FrameLexical.k166
noncomputable def morainelaw20_FrameLexical.k168 : Code := Code.fa morainelaw20_FrameLexical.k167
noncomputable def morainelaw20_FrameLexical.k169 : Code := Code.fb morainelaw20_FrameLexical.k167
noncomputable def morainelaw20_FrameLexical.k170 : Code := Code.fa morainelaw20_FrameLexical.k168
noncomputable def morainelaw20_FrameLexical.k171 : Code := Code.fb morainelaw20_FrameLexical.k168
noncomputable def morainelaw20_FrameLexical.k172 : Code := Code.fa morainelaw20_FrameLexical.k171
noncomputable def morainelaw20_FrameLexical.k173 : Code := Code.fb morainelaw20_FrameLexical.k171
noncomputable def morainelaw20_FrameLexical.k174 : Code := Code.fa morainelaw20_FrameLexical.k169
noncomputable def morainelaw20_FrameLexical.k175 : Code := Code.fb morainelaw20_FrameLexical.k169
noncomputable def morainelaw20_FrameLexical.k176 : Code := Code.fa morainelaw20_FrameLexical.k174
noncomputable def morainelaw20_FrameLexical.k177 : Code := Code.fa morainelaw20_FrameLexical.k176
noncomputable def morainelaw20_FrameLexical.k178 : Code := Code.fb morainelaw20_FrameLexical.k176
noncomputable def morainelaw20_FrameLexical.k179 : Code := Code.fa morainelaw20_FrameLexical.k178
noncomputable def morainelaw20_FrameLexical.k180 : Code := Code.fb morainelaw20_FrameLexical.k178
noncomputable def morainelaw20_FrameLexical.k181 : Code := Code.fa morainelaw20_FrameLexical.k180
noncomputable def morainelaw20_FrameLexical.k182 : Code := Code.fb morainelaw20_FrameLexical.k180
noncomputable def morainelaw20_FrameLexical.k183 : Code := Code.fa morainelaw20_FrameLexical.k181
noncomputable def morainelaw20_FrameLexical.k184 : Code := Code.fb morainelaw20_FrameLexical.k181
noncomputable def morainelaw20_FrameLexical.k185 : Code := Code.fa morainelaw20_FrameLexical.k163
noncomputable def morainelaw20_FrameLexical.k186 : Code := Code.fb morainelaw20_FrameLexical.k163
noncomputable def morainelaw20_FrameLexical.k187 : Code := Code.fa morainelaw20_FrameLexical.k185
noncomputable def morainelaw20_FrameLexical.k188 : Code := Code.fb morainelaw20_FrameLexical.k185
noncomputable def morainelaw20_FrameLexical.k189 : Code := Code.fa morainelaw20_FrameLexical.k188
noncomputable def morainelaw20_FrameLexical.k190 : Code := Code.fb morainelaw20_FrameLexical.k188
noncomputable def morainelaw20_FrameLexical.k191 : Code := Code.fa morainelaw20_FrameLexical.k190
noncomputable def morainelaw20_FrameLexical.k192 : Code := Code.fb morainelaw20_FrameLexical.k190
noncomputable def morainelaw20_FrameLexical.k193 : Code := Code.fa morainelaw20_FrameLexical.k191
noncomputable def morainelaw20_FrameLexical.k194 : Code := Code.fb morainelaw20_FrameLexical.k191
noncomputable def morainelaw20_FrameLexical.k195 : Code := Code.fa morainelaw20_FrameLexical.k148
noncomputable def morainelaw20_FrameLexical.k196 : Code := Code.fb morainelaw20_FrameLexical.k148
noncomputable def morainelaw20_FrameLexical.k197 : Code := Code.fa morainelaw20_FrameLexical.k196
noncomputable def morainelaw20_FrameLexical.k198 : Code := Code.fb morainelaw20_FrameLexical.k196
noncomputable def morainelaw20_FrameLexical.k199 : Code := Code.fa morainelaw20_FrameLexical.k198
noncomputable def morainelaw20_FrameLexical.k200 : Code := Code.fb morainelaw20_FrameLexical.k198
noncomputable def morainelaw20_FrameLexical.k201 : Code := Code.fa morainelaw20_FrameLexical.k199
noncomputable def morainelaw20_FrameLexical.k202 : Code := Code.fb morainelaw20_FrameLexical.k199
noncomputable def morainelaw20_FrameLexical.k203 : Code := Code.fa morainelaw20_FrameLexical.k131
noncomputable def morainelaw20_FrameLexical.k204 : Code := Code.fb morainelaw20_FrameLexical.k131
def morainelaw20_FrameLexical.pt (lB : Option Addr) (lN : Nat) (lC : Nat) (H : Array Obj) (R : Value → Array Obj → Prop) : Prop :=
 obj_New.C 400 H (fun v H1 => ∃ ra : Option Addr, ∃ rb : Int, v = .tuple #[.pointer ra, .int .i64 rb] ∧ 
  if ((rb != 0) || (decide ((lN : Int) > 100))) = true then (
   ∃ J : Bool → Array Obj → Prop, (
    if rb = 0 then (
     morainelaw20_awake.C  H1 (fun v_2 H3 => ∃ x : Bool, v_2 = .bool x ∧ 
      J x H3))
    else
    J false H1) ∧ ∀ (s2 : Bool) (H2 : Array Obj), J s2 H2 →
   R (.bool s2) H2)
  else
  ∃ (I21 : (Option Addr) → Nat → Nat → Int → Array Obj → Prop) (m21 : (Option Addr) → Nat → Nat → Int → Array Obj → Nat), I21 none 0 0 0 H1 ∧ ∀ (allB : Option Addr) (allN : Nat) (allC : Nat) (i : Int) (H4 : Array Obj), I21 allB allN allC i H4 →
  if i < (lN : Int) then (
   ∃ lBA : Addr, lB = some lBA ∧
   ((0 : Int) ≤ i ∧ i < (lN : Int)) ∧
   ∃ xPut : Int, ∃ xAt : Int, ∃ xUp : Int, ∃ xI : Int, ∃ xLB : Option Addr, ∃ xLN : Nat, ∃ xLC : Nat, ∃ xV : Int, RowAt H4 (lBA.add (Int.toNat i * 6)) 0 [.int .i64 xPut, .int .i64 xAt, .int .i64 xUp, .int .i64 xI, .slice xLB xLN xLC, .int .u32 xV] ∧
   ∀ (b : Nat) (H5 : Array Obj), b = H4.size → H5 = H4.push (.cells #[.int .i64 0, .int .i64 0, .int .i64 0, .int .i64 0, .slice none 0 0, .int .u32 0] 50) →
   (CanPuts H5 (Addr.mk b 0 none) 0 6) ∧ ∀ H6 : Array Obj, H6 = hputs H5 (Addr.mk b 0 none) [.int .i64 xPut, .int .i64 xAt, .int .i64 xUp, .int .i64 xI, .slice xLB xLN xLC, .int .u32 xV] 0 →
   ∃ xB : Option Addr, ∃ xN : Nat, ∃ xC : Nat, hat H6 ((Addr.mk b 0 none).add 4) = some (.slice xB xN xC) ∧
   if (xN : Int) > 50 then (
    morainelaw20_awake.C  H6 (fun v_3 H7 => ∃ x_2 : Bool, v_3 = .bool x_2 ∧ 
     R (.bool x_2) H7))
   else
   ∃ x_3 : Int, hat H6 ((Addr.mk b 0 none).add 1) = some (.int .i64 x_3) ∧
   ((IntKind.wrap .i64 ((allN : Int) + 1)) ≠ 0) ∧
   ∃ x_4 : Int, hat H6 (Addr.mk b 0 none) = some (.int .i64 x_4) ∧
   if x_4 > 0 then (
    ∃ x_5 : Int, hat H6 ((Addr.mk b 0 none).add 5) = some (.int .u32 x_5) ∧
    ∃ (I58 : Int → Int → Array Obj → Prop) (m58 : Int → Int → Array Obj → Nat), I58 (Int.tmod (iand .i64 x_3 65535) (IntKind.wrap .i64 ((allN : Int) + 1))) 0 H6 ∧ ∀ (to : Int) (nv : Int) (H8 : Array Obj), I58 to nv H8 →
    ∃ x_6 : Int, hat H8 ((Addr.mk b 0 none).add 2) = some (.int .i64 x_6) ∧
    if ((((decide (nv < x_6)) && (decide (nv < 1000))) && (decide (to < (allN : Int)))) && (decide (to ≥ 0))) = true then (
     ∃ allBA : Addr, allB = some allBA ∧
     ((0 : Int) ≤ to ∧ to < (allN : Int)) ∧
     ∃ x_7 : Int, hat H8 ((allBA.add (Int.toNat to * 3)).add 1) = some (.int .i64 x_7) ∧
     (I58 x_7 (IntKind.wrap .i64 (nv + 1)) H8 ∧ m58 x_7 (IntKind.wrap .i64 (nv + 1)) H8 < m58 to nv H8))
    else
    if (Int.tmod (iand .i64 x_3 65535) (IntKind.wrap .i64 ((allN : Int) + 1))) = (allN : Int) then (
     (I21 allB allN allC (IntKind.wrap .i64 (i + 1)) H8 ∧ m21 allB allN allC (IntKind.wrap .i64 (i + 1)) H8 < m21 allB allN allC i H4))
    else
    ∃ allBA_2 : Addr, allB = some allBA_2 ∧
    ((0 : Int) ≤ (Int.tmod (iand .i64 x_3 65535) (IntKind.wrap .i64 ((allN : Int) + 1))) ∧ (Int.tmod (iand .i64 x_3 65535) (IntKind.wrap .i64 ((allN : Int) + 1))) < (allN : Int)) ∧
    ∃ x_8 : Int, hat H8 (allBA_2.add (Int.toNat (Int.tmod (iand .i64 x_3 65535) (IntKind.wrap .i64 ((allN : Int) + 1))) * 3)) = some (.int .u64 x_8) ∧
    ∃ x_9 : Int, hat H8 ((Addr.mk b 0 none).add 2) = some (.int .i64 x_9) ∧
    ∃ x_10 : Int, hat H8 ((Addr.mk b 0 none).add 3) = some (.int .i64 x_10) ∧
    frame_Put.C ra x_8 x_9 x_10 (ishl .u64 (IntKind.wrap .u64 x_5) 3) H8 (fun v_4 H9 => ∃ x_11 : Int, v_4 = .int .i64 x_11 ∧ 
     ∃ J_2 : Bool → Array Obj → Prop, (
      ∃ x_13 : Int, hat H9 ((Addr.mk b 0 none).add 2) = some (.int .i64 x_13) ∧
      if x_13 ≥ 0 then (
       ∃ x_14 : Int, hat H9 ((Addr.mk b 0 none).add 2) = some (.int .i64 x_14) ∧
       if x_14 < 1000 then (
        if to ≥ 0 then (
         ∃ x_15 : Int, hat H9 ((Addr.mk b 0 none).add 3) = some (.int .i64 x_15) ∧
         if x_15 ≥ 0 then (
          ∃ x_16 : Int, hat H9 ((Addr.mk b 0 none).add 3) = some (.int .i64 x_16) ∧
          ((0 : Int) ≤ (if to < 0 then 0 else to) ∧ (if to < 0 then 0 else to) < (allN : Int)) ∧
          ∃ xB_3 : Option Addr, ∃ xN_3 : Nat, ∃ xC_3 : Nat, hat H9 ((allBA_2.add (Int.toNat (if to < 0 then 0 else to) * 3)).add 2) = some (.slice xB_3 xN_3 xC_3) ∧
          J_2 (decide (x_16 < (xN_3 : Int))) H9)
         else
         J_2 false H9)
        else
        J_2 false H9)
       else
       J_2 false H9)
      else
      J_2 false H9) ∧ ∀ (there : Bool) (H10 : Array Obj), J_2 there H10 →
     if (x_11 == 0) = there then (
      ∃ J_3 : Array Obj → Prop, (
       if there = true then (
        ((0 : Int) ≤ to ∧ to < (allN : Int)) ∧
        ∃ xB_2 : Option Addr, ∃ xN_2 : Nat, ∃ xC_2 : Nat, hat H10 ((allBA_2.add (Int.toNat to * 3)).add 2) = some (.slice xB_2 xN_2 xC_2) ∧
        ∃ x_12 : Int, hat H10 ((Addr.mk b 0 none).add 3) = some (.int .i64 x_12) ∧
        ∃ xB2A : Addr, xB_2 = some xB2A ∧
        ((0 : Int) ≤ x_12 ∧ x_12 < (xN_2 : Int)) ∧
        (CanPuts H10 (xB2A.add (Int.toNat x_12 * 1)) 0 1) ∧ ∀ H12 : Array Obj, H12 = hputs H10 (xB2A.add (Int.toNat x_12 * 1)) [.int .u64 (ishl .u64 (IntKind.wrap .u64 x_5) 3)] 0 → 
        J_3 H12)
       else
       J_3 H10) ∧ ∀ (H11 : Array Obj), J_3 H11 →
      (I21 (some allBA_2) allN allC (IntKind.wrap .i64 (i + 1)) H11 ∧ m21 (some allBA_2) allN allC (IntKind.wrap .i64 (i + 1)) H11 < m21 allB allN allC i H4))
     else
     R (.bool false) H10))
   else
   ∀ (b_2 : Nat) (H13 : Array Obj), b_2 = H6.size → H13 = H6.push (.cells #[.int .u64 0, .int .i64 0, .slice none 0 0] 52) →
   (CanPuts H13 (Addr.mk b_2 0 none) 0 3) ∧ ∀ H14 : Array Obj, H14 = hputs H13 (Addr.mk b_2 0 none) [.int .u64 0, .int .i64 (Int.tmod (iand .i64 x_3 65535) (IntKind.wrap .i64 ((allN : Int) + 1))), .slice none 0 0] 0 →
   ∃ J_4 : Int → Array Obj → Prop, (
    if (Int.tmod (iand .i64 x_3 65535) (IntKind.wrap .i64 ((allN : Int) + 1))) = (allN : Int) then (
     (CanPuts H14 ((Addr.mk b_2 0 none).add 1) 0 1) ∧ ∀ H27 : Array Obj, H27 = hputs H14 ((Addr.mk b_2 0 none).add 1) [.int .i64 (-1)] 0 →
     J_4 20 H27)
    else
    ∃ allBA_3 : Addr, allB = some allBA_3 ∧
    ((0 : Int) ≤ (Int.tmod (iand .i64 x_3 65535) (IntKind.wrap .i64 ((allN : Int) + 1))) ∧ (Int.tmod (iand .i64 x_3 65535) (IntKind.wrap .i64 ((allN : Int) + 1))) < (allN : Int)) ∧
    ∃ x_18 : Int, hat H14 (allBA_3.add (Int.toNat (Int.tmod (iand .i64 x_3 65535) (IntKind.wrap .i64 ((allN : Int) + 1))) * 3)) = some (.int .u64 x_18) ∧
    J_4 x_18 H14) ∧ ∀ (upv : Int) (H15 : Array Obj), J_4 upv H15 →
   ∃ (I107 : Int → Array Obj → Prop) (m107 : Int → Array Obj → Nat), I107 0 H15 ∧ ∀ (nv_2 : Int) (H16 : Array Obj), I107 nv_2 H16 →
   ∃ xB_4 : Option Addr, ∃ xN_4 : Nat, ∃ xC_4 : Nat, hat H16 ((Addr.mk b 0 none).add 4) = some (.slice xB_4 xN_4 xC_4) ∧
   if nv_2 < (xN_4 : Int) then (
    ∃ xB_5 : Option Addr, ∃ xN_5 : Nat, ∃ xC_5 : Nat, hat H16 ((Addr.mk b_2 0 none).add 2) = some (.slice xB_5 xN_5 xC_5) ∧
    ∃ xB_6 : Option Addr, ∃ xN_6 : Nat, ∃ xC_6 : Nat, hat H16 ((Addr.mk b 0 none).add 4) = some (.slice xB_6 xN_6 xC_6) ∧
    ∃ xB6A : Addr, xB_6 = some xB6A ∧
    ((0 : Int) ≤ nv_2 ∧ nv_2 < (xN_6 : Int)) ∧
    ∃ x_17 : Int, hat H16 (xB6A.add (Int.toNat nv_2 * 1)) = some (.int .u32 x_17) ∧
    ∀ (b_3 : Nat) (H17 : Array Obj), b_3 = H16.size → H17 = H16.push (.cells #[.int .u64 (ishl .u64 (IntKind.wrap .u64 x_17) 3)] 29) → RowAt H17 ((Addr.mk b_2 0 none).add 2) 0 [.slice xB_5 xN_5 xC_5] ∧ 
    appendK 1 29 8 [.int .u64 0] xB_5 xN_5 xC_5 (some (Addr.mk b_3 0 none)) 1 H17 (fun ap apC H18 =>
     (CanPuts H18 ((Addr.mk b_2 0 none).add 2) 0 1) ∧ ∀ H19 : Array Obj, H19 = hputs H18 ((Addr.mk b_2 0 none).add 2) [.slice ap (xN_5 + 1) apC] 0 → 
     (I107 (IntKind.wrap .i64 (nv_2 + 1)) H19 ∧ m107 (IntKind.wrap .i64 (nv_2 + 1)) H19 < m107 nv_2 H16)))
   else
   ∃ xB_7 : Option Addr, ∃ xN_7 : Nat, ∃ xC_7 : Nat, hat H16 ((Addr.mk b_2 0 none).add 2) = some (.slice xB_7 xN_7 xC_7) ∧
   frame_Extend.C ra upv xB_7 xN_7 xC_7 H16 (fun v_5 H20 => ∃ ra_2 : Int, ∃ rb_2 : Int, v_5 = .tuple #[.int .u64 ra_2, .int .i64 rb_2] ∧ 
    if rb_2 = 0 then (
     (CanPuts H20 (Addr.mk b_2 0 none) 0 1) ∧ ∀ H21 : Array Obj, H21 = hputs H20 (Addr.mk b_2 0 none) [.int .u64 ra_2] 0 →
     ∀ (b_4 : Nat) (H22 : Array Obj), b_4 = H21.size → H22 = H21.push (.cells #[] 29) →
     ∃ xB_8 : Option Addr, ∃ xN_8 : Nat, ∃ xC_8 : Nat, hat H22 ((Addr.mk b_2 0 none).add 2) = some (.slice xB_8 xN_8 xC_8) ∧
     appendK 1 29 8 [.int .u64 0] (some (Addr.mk b_4 0 none)) 0 0 xB_8 xN_8 H22 (fun ap_2 apC_2 H23 =>
      (CanPuts H23 ((Addr.mk b_2 0 none).add 2) 0 1) ∧ ∀ H24 : Array Obj, H24 = hputs H23 ((Addr.mk b_2 0 none).add 2) [.slice ap_2 (0 + xN_8) apC_2] 0 →
      ∃ xw : Int, ∃ xparent : Int, ∃ xlB : Option Addr, ∃ xlN : Nat, ∃ xlC : Nat, RowAt H24 (Addr.mk b_2 0 none) 0 [.int .u64 xw, .int .i64 xparent, .slice xlB xlN xlC] ∧
      ∀ (b_5 : Nat) (H25 : Array Obj), b_5 = H24.size → H25 = H24.push (.cells #[.int .u64 xw, .int .i64 xparent, .slice xlB xlN xlC] 52) →
      appendK 3 52 40 [.int .u64 0, .int .i64 0, .slice none 0 0] allB allN allC (some (Addr.mk b_5 0 none)) 1 H25 (fun ap_3 apC_3 H26 =>
       (I21 ap_3 (allN + 1) apC_3 (IntKind.wrap .i64 (i + 1)) H26 ∧ m21 ap_3 (allN + 1) apC_3 (IntKind.wrap .i64 (i + 1)) H26 < m21 allB allN allC i H4))))
    else
    R (.bool false) H20))
  else
  ∃ (I136 : Int → Array Obj → Prop) (m136 : Int → Array Obj → Nat), I136 0 H4 ∧ ∀ (i_2 : Int) (H28 : Array Obj), I136 i_2 H28 →
  if i_2 < (allN : Int) then (
   ∃ (I153 : Int → Int → Array Obj → Prop) (m153 : Int → Int → Array Obj → Nat), I153 0 i_2 H28 ∧ ∀ (upv_2 : Int) (k : Int) (H29 : Array Obj), I153 upv_2 k H29 →
   if k ≥ 0 then (
    ∃ (I168 : Int → Array Obj → Prop) (m168 : Int → Array Obj → Nat), I168 0 H29 ∧ ∀ (nv_3 : Int) (H30 : Array Obj), I168 nv_3 H30 →
    ∃ allBA_4 : Addr, allB = some allBA_4 ∧
    ((0 : Int) ≤ k ∧ k < (allN : Int)) ∧
    ∃ xB_9 : Option Addr, ∃ xN_9 : Nat, ∃ xC_9 : Nat, hat H30 ((allBA_4.add (Int.toNat k * 3)).add 2) = some (.slice xB_9 xN_9 xC_9) ∧
    if nv_3 < (xN_9 : Int) then (
     ((0 : Int) ≤ i_2 ∧ i_2 < (allN : Int)) ∧
     ∃ x_19 : Int, hat H30 (allBA_4.add (Int.toNat i_2 * 3)) = some (.int .u64 x_19) ∧
     frame_Get.C ra x_19 upv_2 nv_3 H30 (fun v_6 H31 => ∃ ra_3 : Int, ∃ rb_3 : Int, v_6 = .tuple #[.int .u64 ra_3, .int .i64 rb_3] ∧ 
      if rb_3 = 0 then (
       ((0 : Int) ≤ k ∧ k < (allN : Int)) ∧
       ∃ xB_10 : Option Addr, ∃ xN_10 : Nat, ∃ xC_10 : Nat, hat H31 ((allBA_4.add (Int.toNat k * 3)).add 2) = some (.slice xB_10 xN_10 xC_10) ∧
       ∃ xB10A : Addr, xB_10 = some xB10A ∧
       ((0 : Int) ≤ nv_3 ∧ nv_3 < (xN_10 : Int)) ∧
       ∃ x_20 : Int, hat H31 (xB10A.add (Int.toNat nv_3 * 1)) = some (.int .u64 x_20) ∧
       if ra_3 = x_20 then (
        (I168 (IntKind.wrap .i64 (nv_3 + 1)) H31 ∧ m168 (IntKind.wrap .i64 (nv_3 + 1)) H31 < m168 nv_3 H30))
       else
       R (.bool false) H31)
      else
      R (.bool false) H31))
    else
    ((0 : Int) ≤ i_2 ∧ i_2 < (allN : Int)) ∧
    ∃ x_21 : Int, hat H30 (allBA_4.add (Int.toNat i_2 * 3)) = some (.int .u64 x_21) ∧
    ((0 : Int) ≤ k ∧ k < (allN : Int)) ∧
    ∃ xB_11 : Option Addr, ∃ xN_11 : Nat, ∃ xC_11 : Nat, hat H30 ((allBA_4.add (Int.toNat k * 3)).add 2) = some (.slice xB_11 xN_11 xC_11) ∧
    frame_Get.C ra x_21 upv_2 (xN_11 : Int) H30 (fun v_7 H32 => ∃ ra_4 : Int, ∃ rb_4 : Int, v_7 = .tuple #[.int .u64 ra_4, .int .i64 rb_4] ∧ 
     if rb_4 = 4 then (
      ((0 : Int) ≤ k ∧ k < (allN : Int)) ∧
      ∃ x_22 : Int, hat H32 ((allBA_4.add (Int.toNat k * 3)).add 1) = some (.int .i64 x_22) ∧
      (I153 (IntKind.wrap .i64 (upv_2 + 1)) x_22 H32 ∧ m153 (IntKind.wrap .i64 (upv_2 + 1)) x_22 H32 < m153 upv_2 k H29))
     else
     R (.bool false) H32))
   else
   ∃ allBA_5 : Addr, allB = some allBA_5 ∧
   ((0 : Int) ≤ i_2 ∧ i_2 < (allN : Int)) ∧
   ∃ x_23 : Int, hat H29 (allBA_5.add (Int.toNat i_2 * 3)) = some (.int .u64 x_23) ∧
   frame_Get.C ra x_23 upv_2 0 H29 (fun v_8 H33 => ∃ ra_5 : Int, ∃ rb_5 : Int, v_8 = .tuple #[.int .u64 ra_5, .int .i64 rb_5] ∧ 
    if rb_5 = 3 then (
     ((0 : Int) ≤ i_2 ∧ i_2 < (allN : Int)) ∧
     ∃ x_24 : Int, hat H33 (allBA_5.add (Int.toNat i_2 * 3)) = some (.int .u64 x_24) ∧
     ((0 : Int) ≤ i_2 ∧ i_2 < (allN : Int)) ∧
     ∃ xB_12 : Option Addr, ∃ xN_12 : Nat, ∃ xC_12 : Nat, hat H33 ((allBA_5.add (Int.toNat i_2 * 3)).add 2) = some (.slice xB_12 xN_12 xC_12) ∧
     frame_Count.C ra x_24 H33 (fun v_9 H34 => ∃ x_25 : Int, v_9 = .int .i64 x_25 ∧ RowAt H34 ((allBA_5.add (Int.toNat i_2 * 3)).add 2) 0 [.slice xB_12 xN_12 xC_12] ∧ 
      if x_25 = (xN_12 : Int) then (
       (I136 (IntKind.wrap .i64 (i_2 + 1)) H34 ∧ m136 (IntKind.wrap .i64 (i_2 + 1)) H34 < m136 i_2 H28))
      else
      R (.bool false) H34))
    else
    R (.bool false) H33))
  else
  morainelaw20_awake.C  H28 (fun v_10 H35 => ∃ x_26 : Bool, v_10 = .bool x_26 ∧ 
   R (.bool x_26) H35))
set_option maxRecDepth 100000 in
theorem morainelaw20_FrameLexical.link {lB : Option Addr} {lN : Nat} {lC : Nat} {H : Array Obj} {R : Value → Array Obj → Prop} (h : morainelaw20_FrameLexical.pt lB lN lC H R) : morainelaw20_FrameLexical.C lB lN lC H R := by
  refine S_enter (fn := Try.f5) (c := morainelaw20_FrameLexical.k0) 312 Try.func5 (by kernel_rfl) (by kernel_rfl) (Nat.le_of_ble_eq_true (by kernel_rfl)) ?_
  intro w0 Q hQ
  unfold morainelaw20_FrameLexical.pt at h
  refine S_sub [(0, .slice lB lN lC)] (sb (by kernel_rfl)) ?_
  refine S_seq morainelaw20_FrameLexical.k1 morainelaw20_FrameLexical.k2 (by kernel_rfl) ?_
  refine S_region 0 (Code.ops morainelaw20_FrameLexical.k1) (by kernel_rfl) ?_
  refine N_run 1 [(0, .slice lB lN lC)] (fun w => by kernel_rfl) ?_
  refine N_end (by kernel_rfl) ?_
  refine S_then ?_
  refine S_seq morainelaw20_FrameLexical.k3 morainelaw20_FrameLexical.k4 (by kernel_rfl) ?_
  refine S_region 1 (Code.ops morainelaw20_FrameLexical.k3) (by kernel_rfl) ?_
  refine N_call (some 30) 11 #[.int .i64 400] (fun w => by kernel_rfl) h ?_; clear h
  rintro v H1 ⟨ra, rb, rfl, h⟩
  refine ⟨[(0, .slice lB lN lC), (30, .tuple #[.pointer ra, .int .i64 rb])], ps (by kernel_rfl), ?_⟩
  refine N_run 5 [(0, .slice lB lN lC), (3, .pointer ra), (4, .int .i64 rb)] (fun w => by kernel_rfl) ?_
  refine N_end (by kernel_rfl) ?_
  refine S_then ?_
  refine S_seq morainelaw20_FrameLexical.k5 morainelaw20_FrameLexical.k6 (by kernel_rfl) ?_
  refine S_seq morainelaw20_FrameLexical.k7 morainelaw20_FrameLexical.k8 (by kernel_rfl) ?_
  refine S_region 2 (Code.ops morainelaw20_FrameLexical.k7) (by kernel_rfl) ?_
  refine N_cut [(0, .slice lB lN lC), (3, .pointer ra), (4, .int .i64 rb), (39, .bool ((rb != 0) || (decide ((lN : Int) > 100))))] ?_ ?_
  · refine S_then ?_
    by_cases c3 : ((rb != 0) || (decide ((lN : Int) > 100))) = true
    · rw [if_pos c3] at h
      have b4 : ((rb != 0) || (decide ((lN : Int) > 100))) = true := c3
      refine S_env [(0, .slice lB lN lC), (3, .pointer ra), (4, .int .i64 rb), (39, .bool true)] (by simp only [b4, Bool.not_true, Bool.not_false]) ?_
      clear b4
      refine S_condT (.tmp 39) morainelaw20_FrameLexical.k9 morainelaw20_FrameLexical.k10 (by kernel_rfl) (by kernel_rfl) ?_
      refine S_seq morainelaw20_FrameLexical.k11 morainelaw20_FrameLexical.k12 (by kernel_rfl) ?_
      obtain ⟨J, h, j6⟩ := h
      refine S_join (σ := Bool) (fun s_ => [(2, .bool s_)]) (fun s_ H => J s_ H) ?_ ?_
      · rintro s2 H2 j7
        replace h := j6 s2 H2 j7
        refine S_sub [(2, .bool s2)] (sb (by kernel_rfl)) ?_
        refine S_then ?_
        refine S_ret (by kernel_rfl) ?_
        show At _ _ _ _ (Q .ret)
        exact S_done (fn := Try.f5) [.bool s2] hQ (show ResOK _ _ _ [.tmp 2] _ from .tmp (by kernel_rfl) (.nil)) h
      · refine S_region 3 (Code.ops morainelaw20_FrameLexical.k11) (by kernel_rfl) ?_
        refine N_run 3 [(42, .bool (rb == 0))] (fun w => by kernel_rfl) ?_
        by_cases c8 : rb = 0
        · rw [if_pos c8] at h
          have b9 : (rb == 0) = true := beq_iff_eq.mpr c8
          refine N_env [(42, .bool true)] (by simp only [b9, Bool.not_true, Bool.not_false]) ?_
          clear b9
          refine N_call (some 43) 12 #[] (fun w => by kernel_rfl) h ?_; clear h
          rintro v_2 H3 ⟨x, rfl, h⟩
          refine ⟨[(42, .bool true), (43, .bool x)], ps (by kernel_rfl), ?_⟩
          refine N_run 2 [(2, .bool x)] (fun w => by kernel_rfl) ?_
          refine N_end (by kernel_rfl) ?_
          refine S_then ?_
          exact S_meet (x : Bool) (sb (by kernel_rfl)) h
        · rw [if_neg c8] at h
          have b9 : (rb == 0) = false := beq_eq_false_iff_ne.mpr c8
          refine N_env [(42, .bool false)] (by simp only [b9, Bool.not_true, Bool.not_false]) ?_
          clear b9
          refine N_run 3 [(2, .bool false)] (fun w => by kernel_rfl) ?_
          refine N_end (by kernel_rfl) ?_
          refine S_then ?_
          exact S_meet (false : Bool) (sb (by kernel_rfl)) h
    · rw [if_neg c3] at h
      have b4 : ((rb != 0) || (decide ((lN : Int) > 100))) = false := eq_false_of_ne_true c3
      refine S_env [(0, .slice lB lN lC), (3, .pointer ra), (4, .int .i64 rb), (39, .bool false)] (by simp only [b4, Bool.not_true, Bool.not_false]) ?_
      clear b4
      refine S_condF (.tmp 39) morainelaw20_FrameLexical.k9 morainelaw20_FrameLexical.k10 (by kernel_rfl) (by kernel_rfl) ?_
      refine S_skip (by kernel_rfl) ?_
      refine S_then ?_
      refine S_seq morainelaw20_FrameLexical.k13 morainelaw20_FrameLexical.k14 (by kernel_rfl) ?_
      refine S_region 4 (Code.ops morainelaw20_FrameLexical.k13) (by kernel_rfl) ?_
      refine N_run 1 [(0, .slice lB lN lC), (3, .pointer ra), (5, .slice none 0 0)] (fun w => by kernel_rfl) ?_
      refine N_end (by kernel_rfl) ?_
      refine S_then ?_
      refine S_seq morainelaw20_FrameLexical.k15 morainelaw20_FrameLexical.k16 (by kernel_rfl) ?_
      refine S_seq morainelaw20_FrameLexical.k17 morainelaw20_FrameLexical.k18 (by kernel_rfl) ?_
      refine S_region 5 (Code.ops morainelaw20_FrameLexical.k17) (by kernel_rfl) ?_
      refine N_run 1 [(0, .slice lB lN lC), (3, .pointer ra), (5, .slice none 0 0), (6, .int .i64 0)] (fun w => by kernel_rfl) ?_
      refine N_end (by kernel_rfl) ?_
      refine S_then ?_
      refine S_block 0 morainelaw20_FrameLexical.k19 (by kernel_rfl) ?_
      obtain ⟨I21, m21, i10, i11⟩ := h
      refine S_loop (x := morainelaw20_FrameLexical.k20) (σ := (Option Addr) × Nat × Nat × Int) (fun s_ => [(0, .slice lB lN lC), (3, .pointer ra), (5, .slice s_.1 s_.2.1 s_.2.2.1), (6, .int .i64 s_.2.2.2)]) (fun s_ H => I21 s_.1 s_.2.1 s_.2.2.1 s_.2.2.2 H) (fun s_ H => m21 s_.1 s_.2.1 s_.2.2.1 s_.2.2.2 H) ((none, 0, 0, 0) : (Option Addr) × Nat × Nat × Int) (by kernel_rfl) i10 (sb (by kernel_rfl)) ?_
      rintro ⟨allB, allN, allC, i⟩ H4 i12
      have h := i11 allB allN allC i H4 i12
      refine S_sub [(0, .slice lB lN lC), (3, .pointer ra), (5, .slice allB allN allC), (6, .int .i64 i)] (sb (by kernel_rfl)) ?_
      refine S_seq morainelaw20_FrameLexical.k21 morainelaw20_FrameLexical.k22 (by kernel_rfl) ?_
      refine S_seq morainelaw20_FrameLexical.k23 morainelaw20_FrameLexical.k24 (by kernel_rfl) ?_
      refine S_region 6 (Code.ops morainelaw20_FrameLexical.k23) (by kernel_rfl) ?_
      refine N_run 4 [(0, .slice lB lN lC), (3, .pointer ra), (5, .slice allB allN allC), (6, .int .i64 i), (48, .bool (decide (i < (lN : Int))))] (fun w => by kernel_rfl) ?_
      refine N_end (by kernel_rfl) ?_
      refine S_then ?_
      by_cases c13 : i < (lN : Int)
      · rw [if_pos c13] at h
        have b14 : (decide (i < (lN : Int))) = true := decide_eq_true c13
        refine S_env [(0, .slice lB lN lC), (3, .pointer ra), (5, .slice allB allN allC), (6, .int .i64 i), (48, .bool true)] (by simp only [b14, Bool.not_true, Bool.not_false]) ?_
        clear b14
        refine S_condT (.tmp 48) morainelaw20_FrameLexical.k25 morainelaw20_FrameLexical.k26 (by kernel_rfl) (by kernel_rfl) ?_
        refine S_skip (by kernel_rfl) ?_
        refine S_then ?_
        refine S_seq morainelaw20_FrameLexical.k27 morainelaw20_FrameLexical.k28 (by kernel_rfl) ?_
        refine S_block 1 morainelaw20_FrameLexical.k29 (by kernel_rfl) ?_
        refine S_seq morainelaw20_FrameLexical.k30 morainelaw20_FrameLexical.k31 (by kernel_rfl) ?_
        refine S_region 8 (Code.ops morainelaw20_FrameLexical.k30) (by kernel_rfl) ?_
        refine N_run 2 [(0, .slice lB lN lC), (3, .pointer ra), (5, .slice allB allN allC), (6, .int .i64 i), (51, .slice lB lN lC), (52, .int .i64 i)] (fun w => by kernel_rfl) ?_
        obtain ⟨lBA, rfl, h⟩ := h
        obtain ⟨q15, h⟩ := h
        refine N_val (some 53) (indexAtN 47 (.slice (some lBA) lN lC) (.int .i64 i)) (.pointer (some (lBA.add (Int.toNat i * 6)))) (fun w => by kernel_rfl) (fun w _ => indexAt_run (P := Try.prog) (t := 47) (elem := 50) (sz := 6) (a := lBA) (len := lN) (cap := lC) (k := .i64) (i := i) Try.underlying47 (fun w => by kernel_rfl) q15.1 q15.2 w) [(0, .slice (some lBA) lN lC), (3, .pointer ra), (5, .slice allB allN allC), (6, .int .i64 i), (53, .pointer (some (lBA.add (Int.toNat i * 6))))] (ps (by kernel_rfl)) ?_
        obtain ⟨xPut, xAt, xUp, xI, xLB, xLN, xLC, xV, q16, h⟩ := h
        refine N_val (some 54) (loadN 50 (.pointer (some (lBA.add (Int.toNat i * 6))))) (.agg #[.int .i64 xPut, .int .i64 xAt, .int .i64 xUp, .int .i64 xI, .slice xLB xLN xLC, .int .u32 xV]) (fun w => by kernel_rfl) (loadN_run (loadOK_row (fun w => by kernel_rfl) (fun w => by kernel_rfl) q16)) [(0, .slice (some lBA) lN lC), (3, .pointer ra), (5, .slice allB allN allC), (6, .int .i64 i), (54, .agg #[.int .i64 xPut, .int .i64 xAt, .int .i64 xUp, .int .i64 xI, .slice xLB xLN xLC, .int .u32 xV])] (ps (by kernel_rfl)) ?_
        refine N_new (some 7) (fun b => .pointer (some (Addr.mk b 0 none))) (.cells #[.int .i64 0, .int .i64 0, .int .i64 0, .int .i64 0, .slice none 0 0, .int .u32 0] 50) (fun w => by kernel_rfl) ?_
        intro b H5 e17 e18
        replace h := h b H5 e17 e18
        refine ⟨[(0, .slice (some lBA) lN lC), (3, .pointer ra), (5, .slice allB allN allC), (6, .int .i64 i), (7, .pointer (some (Addr.mk b 0 none))), (54, .agg #[.int .i64 xPut, .int .i64 xAt, .int .i64 xUp, .int .i64 xI, .slice xLB xLN xLC, .int .u32 xV])], ps (by kernel_rfl), ?_⟩
        obtain ⟨q20, h⟩ := h
        refine N_skipop none (storeN 50 (.pointer (some (Addr.mk b 0 none))) (.agg #[.int .i64 xPut, .int .i64 xAt, .int .i64 xUp, .int .i64 xI, .slice xLB xLN xLC, .int .u32 xV])) (fun Hz => Hz = hputs H5 (Addr.mk b 0 none) [.int .i64 xPut, .int .i64 xAt, .int .i64 xUp, .int .i64 xI, .slice xLB xLN xLC, .int .u32 xV] 0) (fun w => by kernel_rfl) (ss_store [.int .i64 xPut, .int .i64 xAt, .int .i64 xUp, .int .i64 xI, .slice xLB xLN xLC, .int .u32 xV] 6 (by kernel_rfl) (by kernel_rfl) (fun w => by kernel_rfl) (by kernel_rfl) q20) ?_
        intro H6 e19
        replace h := h H6 e19
        refine ⟨[(0, .slice (some lBA) lN lC), (3, .pointer ra), (5, .slice allB allN allC), (6, .int .i64 i), (7, .pointer (some (Addr.mk b 0 none)))], ps (by kernel_rfl), ?_⟩
        refine N_end (by kernel_rfl) ?_
        refine S_then ?_
        refine S_seq morainelaw20_FrameLexical.k32 morainelaw20_FrameLexical.k33 (by kernel_rfl) ?_
        refine S_seq morainelaw20_FrameLexical.k34 morainelaw20_FrameLexical.k35 (by kernel_rfl) ?_
        refine S_region 9 (Code.ops morainelaw20_FrameLexical.k34) (by kernel_rfl) ?_
        refine N_run 1 [(0, .slice (some lBA) lN lC), (3, .pointer ra), (5, .slice allB allN allC), (6, .int .i64 i), (7, .pointer (some (Addr.mk b 0 none))), (55, .pointer (some ((Addr.mk b 0 none).add 4)))] (fun w => by kernel_rfl) ?_
        obtain ⟨xB, xN, xC, q21, h⟩ := h
        refine N_val (some 56) (loadN 40 (.pointer (some ((Addr.mk b 0 none).add 4)))) (.slice xB xN xC) (fun w => by kernel_rfl) (loadN_run (loadOK_one (fun w => by kernel_rfl) q21)) [(0, .slice (some lBA) lN lC), (3, .pointer ra), (5, .slice allB allN allC), (6, .int .i64 i), (7, .pointer (some (Addr.mk b 0 none))), (56, .slice xB xN xC)] (ps (by kernel_rfl)) ?_
        refine N_run 2 [(0, .slice (some lBA) lN lC), (3, .pointer ra), (5, .slice allB allN allC), (6, .int .i64 i), (7, .pointer (some (Addr.mk b 0 none))), (58, .bool (decide ((xN : Int) > 50)))] (fun w => by kernel_rfl) ?_
        refine N_end (by kernel_rfl) ?_
        refine S_then ?_
        by_cases c22 : (xN : Int) > 50
        · rw [if_pos c22] at h
          have b23 : (decide ((xN : Int) > 50)) = true := decide_eq_true c22
          refine S_env [(0, .slice (some lBA) lN lC), (3, .pointer ra), (5, .slice allB allN allC), (6, .int .i64 i), (7, .pointer (some (Addr.mk b 0 none))), (58, .bool true)] (by simp only [b23, Bool.not_true, Bool.not_false]) ?_
          clear b23
          refine S_condT (.tmp 58) morainelaw20_FrameLexical.k36 morainelaw20_FrameLexical.k37 (by kernel_rfl) (by kernel_rfl) ?_
          refine S_seq morainelaw20_FrameLexical.k38 morainelaw20_FrameLexical.k39 (by kernel_rfl) ?_
          refine S_region 10 (Code.ops morainelaw20_FrameLexical.k38) (by kernel_rfl) ?_
          refine N_sub [] (sb (by kernel_rfl)) ?_
          refine N_call (some 59) 12 #[] (fun w => by kernel_rfl) h ?_; clear h
          rintro v_3 H7 ⟨x_2, rfl, h⟩
          refine ⟨[(59, .bool x_2)], ps (by kernel_rfl), ?_⟩
          refine N_run 1 [(2, .bool x_2)] (fun w => by kernel_rfl) ?_
          refine N_end (by kernel_rfl) ?_
          refine S_then ?_
          refine S_ret (by kernel_rfl) ?_
          show At _ _ _ _ (Q .ret)
          exact S_done (fn := Try.f5) [.bool x_2] hQ (show ResOK _ _ _ [.tmp 2] _ from .tmp (by kernel_rfl) (.nil)) h
        · rw [if_neg c22] at h
          have b23 : (decide ((xN : Int) > 50)) = false := decide_eq_false c22
          refine S_env [(0, .slice (some lBA) lN lC), (3, .pointer ra), (5, .slice allB allN allC), (6, .int .i64 i), (7, .pointer (some (Addr.mk b 0 none))), (58, .bool false)] (by simp only [b23, Bool.not_true, Bool.not_false]) ?_
          clear b23
          refine S_condF (.tmp 58) morainelaw20_FrameLexical.k36 morainelaw20_FrameLexical.k37 (by kernel_rfl) (by kernel_rfl) ?_
          refine S_skip (by kernel_rfl) ?_
          refine S_then ?_
          refine S_seq morainelaw20_FrameLexical.k40 morainelaw20_FrameLexical.k41 (by kernel_rfl) ?_
          refine S_region 11 (Code.ops morainelaw20_FrameLexical.k40) (by kernel_rfl) ?_
          refine N_run 1 [(0, .slice (some lBA) lN lC), (3, .pointer ra), (5, .slice allB allN allC), (6, .int .i64 i), (7, .pointer (some (Addr.mk b 0 none))), (60, .pointer (some ((Addr.mk b 0 none).add 1)))] (fun w => by kernel_rfl) ?_
          obtain ⟨x_3, q24, h⟩ := h
          refine N_val (some 61) (loadN 3 (.pointer (some ((Addr.mk b 0 none).add 1)))) (.int .i64 x_3) (fun w => by kernel_rfl) (loadN_run (loadOK_one (fun w => by kernel_rfl) q24)) [(0, .slice (some lBA) lN lC), (3, .pointer ra), (5, .slice allB allN allC), (6, .int .i64 i), (7, .pointer (some (Addr.mk b 0 none))), (61, .int .i64 x_3)] (ps (by kernel_rfl)) ?_
          refine N_run 4 [(0, .slice (some lBA) lN lC), (3, .pointer ra), (5, .slice allB allN allC), (6, .int .i64 i), (7, .pointer (some (Addr.mk b 0 none))), (62, .int .i64 (iand .i64 x_3 65535)), (65, .int .i64 (IntKind.wrap .i64 ((allN : Int) + 1)))] (fun w => by kernel_rfl) ?_
          obtain ⟨q25, h⟩ := h
          refine N_val (some 66) (binN .rem 3 (.int .i64 (iand .i64 x_3 65535)) (.int .i64 (IntKind.wrap .i64 ((allN : Int) + 1)))) (.int .i64 (Int.tmod (iand .i64 x_3 65535) (IntKind.wrap .i64 ((allN : Int) + 1)))) (fun w => by kernel_rfl) (fun w _ => rem_run (P := Try.prog) (t := 3) (k := .i64) (x := (iand .i64 x_3 65535)) (y := (IntKind.wrap .i64 ((allN : Int) + 1))) q25 w) [(0, .slice (some lBA) lN lC), (3, .pointer ra), (5, .slice allB allN allC), (6, .int .i64 i), (7, .pointer (some (Addr.mk b 0 none))), (66, .int .i64 (Int.tmod (iand .i64 x_3 65535) (IntKind.wrap .i64 ((allN : Int) + 1))))] (ps (by kernel_rfl)) ?_
          refine N_run 1 [(0, .slice (some lBA) lN lC), (3, .pointer ra), (5, .slice allB allN allC), (6, .int .i64 i), (7, .pointer (some (Addr.mk b 0 none))), (8, .int .i64 (Int.tmod (iand .i64 x_3 65535) (IntKind.wrap .i64 ((allN : Int) + 1))))] (fun w => by kernel_rfl) ?_
          refine N_end (by kernel_rfl) ?_
          refine S_then ?_
          refine S_seq morainelaw20_FrameLexical.k42 morainelaw20_FrameLexical.k43 (by kernel_rfl) ?_
          refine S_seq morainelaw20_FrameLexical.k44 morainelaw20_FrameLexical.k45 (by kernel_rfl) ?_
          refine S_region 12 (Code.ops morainelaw20_FrameLexical.k44) (by kernel_rfl) ?_
          refine N_run 1 [(0, .slice (some lBA) lN lC), (3, .pointer ra), (5, .slice allB allN allC), (6, .int .i64 i), (7, .pointer (some (Addr.mk b 0 none))), (8, .int .i64 (Int.tmod (iand .i64 x_3 65535) (IntKind.wrap .i64 ((allN : Int) + 1)))), (67, .pointer (some (Addr.mk b 0 none)))] (fun w => by kernel_rfl) ?_
          obtain ⟨x_4, q26, h⟩ := h
          refine N_val (some 68) (loadN 3 (.pointer (some (Addr.mk b 0 none)))) (.int .i64 x_4) (fun w => by kernel_rfl) (loadN_run (loadOK_one (fun w => by kernel_rfl) q26)) [(0, .slice (some lBA) lN lC), (3, .pointer ra), (5, .slice allB allN allC), (6, .int .i64 i), (7, .pointer (some (Addr.mk b 0 none))), (8, .int .i64 (Int.tmod (iand .i64 x_3 65535) (IntKind.wrap .i64 ((allN : Int) + 1)))), (68, .int .i64 x_4)] (ps (by kernel_rfl)) ?_
          refine N_run 1 [(0, .slice (some lBA) lN lC), (3, .pointer ra), (5, .slice allB allN allC), (6, .int .i64 i), (7, .pointer (some (Addr.mk b 0 none))), (8, .int .i64 (Int.tmod (iand .i64 x_3 65535) (IntKind.wrap .i64 ((allN : Int) + 1)))), (69, .bool (decide (x_4 > 0)))] (fun w => by kernel_rfl) ?_
          refine N_end (by kernel_rfl) ?_
          refine S_then ?_
          by_cases c27 : x_4 > 0
          · rw [if_pos c27] at h
            have b28 : (decide (x_4 > 0)) = true := decide_eq_true c27
            refine S_env [(0, .slice (some lBA) lN lC), (3, .pointer ra), (5, .slice allB allN allC), (6, .int .i64 i), (7, .pointer (some (Addr.mk b 0 none))), (8, .int .i64 (Int.tmod (iand .i64 x_3 65535) (IntKind.wrap .i64 ((allN : Int) + 1)))), (69, .bool true)] (by simp only [b28, Bool.not_true, Bool.not_false]) ?_
            clear b28
            refine S_condT (.tmp 69) morainelaw20_FrameLexical.k46 morainelaw20_FrameLexical.k47 (by kernel_rfl) (by kernel_rfl) ?_
            refine S_seq morainelaw20_FrameLexical.k48 morainelaw20_FrameLexical.k49 (by kernel_rfl) ?_
            refine S_region 13 (Code.ops morainelaw20_FrameLexical.k48) (by kernel_rfl) ?_
            refine N_run 1 [(0, .slice (some lBA) lN lC), (3, .pointer ra), (5, .slice allB allN allC), (6, .int .i64 i), (7, .pointer (some (Addr.mk b 0 none))), (8, .int .i64 (Int.tmod (iand .i64 x_3 65535) (IntKind.wrap .i64 ((allN : Int) + 1)))), (70, .pointer (some ((Addr.mk b 0 none).add 5)))] (fun w => by kernel_rfl) ?_
            obtain ⟨x_5, q29, h⟩ := h
            refine N_val (some 71) (loadN 41 (.pointer (some ((Addr.mk b 0 none).add 5)))) (.int .u32 x_5) (fun w => by kernel_rfl) (loadN_run (loadOK_one (fun w => by kernel_rfl) q29)) [(0, .slice (some lBA) lN lC), (3, .pointer ra), (5, .slice allB allN allC), (6, .int .i64 i), (7, .pointer (some (Addr.mk b 0 none))), (8, .int .i64 (Int.tmod (iand .i64 x_3 65535) (IntKind.wrap .i64 ((allN : Int) + 1)))), (71, .int .u32 x_5)] (ps (by kernel_rfl)) ?_
            refine N_run 3 [(0, .slice (some lBA) lN lC), (3, .pointer ra), (5, .slice allB allN allC), (6, .int .i64 i), (7, .pointer (some (Addr.mk b 0 none))), (8, .int .i64 (Int.tmod (iand .i64 x_3 65535) (IntKind.wrap .i64 ((allN : Int) + 1)))), (9, .int .u64 (ishl .u64 (IntKind.wrap .u64 x_5) 3))] (fun w => by kernel_rfl) ?_
            refine N_end (by kernel_rfl) ?_
            refine S_then ?_
            refine S_seq morainelaw20_FrameLexical.k50 morainelaw20_FrameLexical.k51 (by kernel_rfl) ?_
            refine S_region 14 (Code.ops morainelaw20_FrameLexical.k50) (by kernel_rfl) ?_
            refine N_run 2 [(0, .slice (some lBA) lN lC), (3, .pointer ra), (5, .slice allB allN allC), (6, .int .i64 i), (7, .pointer (some (Addr.mk b 0 none))), (8, .int .i64 (Int.tmod (iand .i64 x_3 65535) (IntKind.wrap .i64 ((allN : Int) + 1)))), (9, .int .u64 (ishl .u64 (IntKind.wrap .u64 x_5) 3)), (10, .int .i64 (Int.tmod (iand .i64 x_3 65535) (IntKind.wrap .i64 ((allN : Int) + 1))))] (fun w => by kernel_rfl) ?_
            refine N_end (by kernel_rfl) ?_
            refine S_then ?_
            refine S_seq morainelaw20_FrameLexical.k52 morainelaw20_FrameLexical.k53 (by kernel_rfl) ?_
            refine S_seq morainelaw20_FrameLexical.k54 morainelaw20_FrameLexical.k55 (by kernel_rfl) ?_
            refine S_region 15 (Code.ops morainelaw20_FrameLexical.k54) (by kernel_rfl) ?_
            refine N_run 1 [(0, .slice (some lBA) lN lC), (3, .pointer ra), (5, .slice allB allN allC), (6, .int .i64 i), (7, .pointer (some (Addr.mk b 0 none))), (8, .int .i64 (Int.tmod (iand .i64 x_3 65535) (IntKind.wrap .i64 ((allN : Int) + 1)))), (9, .int .u64 (ishl .u64 (IntKind.wrap .u64 x_5) 3)), (10, .int .i64 (Int.tmod (iand .i64 x_3 65535) (IntKind.wrap .i64 ((allN : Int) + 1)))), (11, .int .i64 0)] (fun w => by kernel_rfl) ?_
            refine N_end (by kernel_rfl) ?_
            refine S_then ?_
            refine S_block 2 morainelaw20_FrameLexical.k56 (by kernel_rfl) ?_
            obtain ⟨I58, m58, i30, i31⟩ := h
            refine S_loop (x := morainelaw20_FrameLexical.k57) (σ := Int × Int) (fun s_ => [(0, .slice (some lBA) lN lC), (3, .pointer ra), (5, .slice allB allN allC), (6, .int .i64 i), (7, .pointer (some (Addr.mk b 0 none))), (8, .int .i64 (Int.tmod (iand .i64 x_3 65535) (IntKind.wrap .i64 ((allN : Int) + 1)))), (9, .int .u64 (ishl .u64 (IntKind.wrap .u64 x_5) 3)), (10, .int .i64 s_.1), (11, .int .i64 s_.2)]) (fun s_ H => I58 s_.1 s_.2 H) (fun s_ H => m58 s_.1 s_.2 H) (((Int.tmod (iand .i64 x_3 65535) (IntKind.wrap .i64 ((allN : Int) + 1))), 0) : Int × Int) (by kernel_rfl) i30 (sb (by kernel_rfl)) ?_
            rintro ⟨to, nv⟩ H8 i32
            have h := i31 to nv H8 i32
            refine S_sub [(0, .slice (some lBA) lN lC), (3, .pointer ra), (5, .slice allB allN allC), (6, .int .i64 i), (7, .pointer (some (Addr.mk b 0 none))), (8, .int .i64 (Int.tmod (iand .i64 x_3 65535) (IntKind.wrap .i64 ((allN : Int) + 1)))), (9, .int .u64 (ishl .u64 (IntKind.wrap .u64 x_5) 3)), (10, .int .i64 to), (11, .int .i64 nv)] (sb (by kernel_rfl)) ?_
            refine S_seq morainelaw20_FrameLexical.k58 morainelaw20_FrameLexical.k59 (by kernel_rfl) ?_
            refine S_seq morainelaw20_FrameLexical.k60 morainelaw20_FrameLexical.k61 (by kernel_rfl) ?_
            refine S_region 16 (Code.ops morainelaw20_FrameLexical.k60) (by kernel_rfl) ?_
            refine N_run 2 [(0, .slice (some lBA) lN lC), (3, .pointer ra), (5, .slice allB allN allC), (6, .int .i64 i), (7, .pointer (some (Addr.mk b 0 none))), (8, .int .i64 (Int.tmod (iand .i64 x_3 65535) (IntKind.wrap .i64 ((allN : Int) + 1)))), (9, .int .u64 (ishl .u64 (IntKind.wrap .u64 x_5) 3)), (10, .int .i64 to), (11, .int .i64 nv), (75, .int .i64 nv), (76, .pointer (some ((Addr.mk b 0 none).add 2)))] (fun w => by kernel_rfl) ?_
            obtain ⟨x_6, q33, h⟩ := h
            refine N_val (some 77) (loadN 3 (.pointer (some ((Addr.mk b 0 none).add 2)))) (.int .i64 x_6) (fun w => by kernel_rfl) (loadN_run (loadOK_one (fun w => by kernel_rfl) q33)) [(0, .slice (some lBA) lN lC), (3, .pointer ra), (5, .slice allB allN allC), (6, .int .i64 i), (7, .pointer (some (Addr.mk b 0 none))), (8, .int .i64 (Int.tmod (iand .i64 x_3 65535) (IntKind.wrap .i64 ((allN : Int) + 1)))), (9, .int .u64 (ishl .u64 (IntKind.wrap .u64 x_5) 3)), (10, .int .i64 to), (11, .int .i64 nv), (75, .int .i64 nv), (77, .int .i64 x_6)] (ps (by kernel_rfl)) ?_
            refine N_run 2 [(0, .slice (some lBA) lN lC), (3, .pointer ra), (5, .slice allB allN allC), (6, .int .i64 i), (7, .pointer (some (Addr.mk b 0 none))), (8, .int .i64 (Int.tmod (iand .i64 x_3 65535) (IntKind.wrap .i64 ((allN : Int) + 1)))), (9, .int .u64 (ishl .u64 (IntKind.wrap .u64 x_5) 3)), (10, .int .i64 to), (11, .int .i64 nv), (79, .bool (decide (nv < x_6)))] (fun w => by kernel_rfl) ?_
            refine N_cut [(0, .slice (some lBA) lN lC), (3, .pointer ra), (5, .slice allB allN allC), (6, .int .i64 i), (7, .pointer (some (Addr.mk b 0 none))), (8, .int .i64 (Int.tmod (iand .i64 x_3 65535) (IntKind.wrap .i64 ((allN : Int) + 1)))), (9, .int .u64 (ishl .u64 (IntKind.wrap .u64 x_5) 3)), (10, .int .i64 to), (11, .int .i64 nv), (92, .bool ((((decide (nv < x_6)) && (decide (nv < 1000))) && (decide (to < (allN : Int)))) && (decide (to ≥ 0))))] ?_ ?_
            · refine S_then ?_
              by_cases c40 : ((((decide (nv < x_6)) && (decide (nv < 1000))) && (decide (to < (allN : Int)))) && (decide (to ≥ 0))) = true
              · rw [if_pos c40] at h
                have b41 : ((((decide (nv < x_6)) && (decide (nv < 1000))) && (decide (to < (allN : Int)))) && (decide (to ≥ 0))) = true := c40
                refine S_env [(0, .slice (some lBA) lN lC), (3, .pointer ra), (5, .slice allB allN allC), (6, .int .i64 i), (7, .pointer (some (Addr.mk b 0 none))), (8, .int .i64 (Int.tmod (iand .i64 x_3 65535) (IntKind.wrap .i64 ((allN : Int) + 1)))), (9, .int .u64 (ishl .u64 (IntKind.wrap .u64 x_5) 3)), (10, .int .i64 to), (11, .int .i64 nv), (92, .bool true)] (by simp only [b41, Bool.not_true, Bool.not_false]) ?_
                clear b41
                refine S_condT (.tmp 92) morainelaw20_FrameLexical.k62 morainelaw20_FrameLexical.k63 (by kernel_rfl) (by kernel_rfl) ?_
                refine S_skip (by kernel_rfl) ?_
                refine S_then ?_
                refine S_seq morainelaw20_FrameLexical.k64 morainelaw20_FrameLexical.k65 (by kernel_rfl) ?_
                refine S_block 3 morainelaw20_FrameLexical.k66 (by kernel_rfl) ?_
                refine S_region 18 (Code.ops morainelaw20_FrameLexical.k66) (by kernel_rfl) ?_
                refine N_run 2 [(0, .slice (some lBA) lN lC), (3, .pointer ra), (5, .slice allB allN allC), (6, .int .i64 i), (7, .pointer (some (Addr.mk b 0 none))), (8, .int .i64 (Int.tmod (iand .i64 x_3 65535) (IntKind.wrap .i64 ((allN : Int) + 1)))), (9, .int .u64 (ishl .u64 (IntKind.wrap .u64 x_5) 3)), (11, .int .i64 nv), (95, .slice allB allN allC), (96, .int .i64 to)] (fun w => by kernel_rfl) ?_
                obtain ⟨allBA, rfl, h⟩ := h
                obtain ⟨q42, h⟩ := h
                refine N_val (some 97) (indexAtN 48 (.slice (some allBA) allN allC) (.int .i64 to)) (.pointer (some (allBA.add (Int.toNat to * 3)))) (fun w => by kernel_rfl) (fun w _ => indexAt_run (P := Try.prog) (t := 48) (elem := 52) (sz := 3) (a := allBA) (len := allN) (cap := allC) (k := .i64) (i := to) Try.underlying48 (fun w => by kernel_rfl) q42.1 q42.2 w) [(0, .slice (some lBA) lN lC), (3, .pointer ra), (5, .slice (some allBA) allN allC), (6, .int .i64 i), (7, .pointer (some (Addr.mk b 0 none))), (8, .int .i64 (Int.tmod (iand .i64 x_3 65535) (IntKind.wrap .i64 ((allN : Int) + 1)))), (9, .int .u64 (ishl .u64 (IntKind.wrap .u64 x_5) 3)), (11, .int .i64 nv), (97, .pointer (some (allBA.add (Int.toNat to * 3))))] (ps (by kernel_rfl)) ?_
                refine N_run 1 [(0, .slice (some lBA) lN lC), (3, .pointer ra), (5, .slice (some allBA) allN allC), (6, .int .i64 i), (7, .pointer (some (Addr.mk b 0 none))), (8, .int .i64 (Int.tmod (iand .i64 x_3 65535) (IntKind.wrap .i64 ((allN : Int) + 1)))), (9, .int .u64 (ishl .u64 (IntKind.wrap .u64 x_5) 3)), (11, .int .i64 nv), (98, .pointer (some ((allBA.add (Int.toNat to * 3)).add 1)))] (fun w => by kernel_rfl) ?_
                obtain ⟨x_7, q43, h⟩ := h
                refine N_val (some 99) (loadN 3 (.pointer (some ((allBA.add (Int.toNat to * 3)).add 1)))) (.int .i64 x_7) (fun w => by kernel_rfl) (loadN_run (loadOK_one (fun w => by kernel_rfl) q43)) [(0, .slice (some lBA) lN lC), (3, .pointer ra), (5, .slice (some allBA) allN allC), (6, .int .i64 i), (7, .pointer (some (Addr.mk b 0 none))), (8, .int .i64 (Int.tmod (iand .i64 x_3 65535) (IntKind.wrap .i64 ((allN : Int) + 1)))), (9, .int .u64 (ishl .u64 (IntKind.wrap .u64 x_5) 3)), (11, .int .i64 nv), (99, .int .i64 x_7)] (ps (by kernel_rfl)) ?_
                refine N_run 1 [(0, .slice (some lBA) lN lC), (3, .pointer ra), (5, .slice (some allBA) allN allC), (6, .int .i64 i), (7, .pointer (some (Addr.mk b 0 none))), (8, .int .i64 (Int.tmod (iand .i64 x_3 65535) (IntKind.wrap .i64 ((allN : Int) + 1)))), (9, .int .u64 (ishl .u64 (IntKind.wrap .u64 x_5) 3)), (10, .int .i64 x_7), (11, .int .i64 nv)] (fun w => by kernel_rfl) ?_
                refine N_end (by kernel_rfl) ?_
                refine S_blockEnd ?_
                refine S_then ?_
                refine S_region 17 (Code.ops morainelaw20_FrameLexical.k65) (by kernel_rfl) ?_
                refine N_run 3 [(0, .slice (some lBA) lN lC), (3, .pointer ra), (5, .slice (some allBA) allN allC), (6, .int .i64 i), (7, .pointer (some (Addr.mk b 0 none))), (8, .int .i64 (Int.tmod (iand .i64 x_3 65535) (IntKind.wrap .i64 ((allN : Int) + 1)))), (9, .int .u64 (ishl .u64 (IntKind.wrap .u64 x_5) 3)), (10, .int .i64 x_7), (11, .int .i64 (IntKind.wrap .i64 (nv + 1)))] (fun w => by kernel_rfl) ?_
                refine N_end (by kernel_rfl) ?_
                refine S_then ?_
                exact S_round ((x_7, (IntKind.wrap .i64 (nv + 1))) : Int × Int) (sb (by kernel_rfl)) h
              · rw [if_neg c40] at h
                have b41 : ((((decide (nv < x_6)) && (decide (nv < 1000))) && (decide (to < (allN : Int)))) && (decide (to ≥ 0))) = false := eq_false_of_ne_true c40
                refine S_env [(0, .slice (some lBA) lN lC), (3, .pointer ra), (5, .slice allB allN allC), (6, .int .i64 i), (7, .pointer (some (Addr.mk b 0 none))), (8, .int .i64 (Int.tmod (iand .i64 x_3 65535) (IntKind.wrap .i64 ((allN : Int) + 1)))), (9, .int .u64 (ishl .u64 (IntKind.wrap .u64 x_5) 3)), (10, .int .i64 to), (11, .int .i64 nv), (92, .bool false)] (by simp only [b41, Bool.not_true, Bool.not_false]) ?_
                clear b41
                refine S_condF (.tmp 92) morainelaw20_FrameLexical.k62 morainelaw20_FrameLexical.k63 (by kernel_rfl) (by kernel_rfl) ?_
                refine S_exit 2 (by kernel_rfl) ?_
                refine S_exitThen ?_
                refine S_exitThen ?_
                refine S_exitHere ?_
                refine S_then ?_
                refine S_seq morainelaw20_FrameLexical.k67 morainelaw20_FrameLexical.k68 (by kernel_rfl) ?_
                refine S_seq morainelaw20_FrameLexical.k69 morainelaw20_FrameLexical.k70 (by kernel_rfl) ?_
                refine S_region 19 (Code.ops morainelaw20_FrameLexical.k69) (by kernel_rfl) ?_
                refine N_run 4 [(0, .slice (some lBA) lN lC), (3, .pointer ra), (5, .slice allB allN allC), (6, .int .i64 i), (7, .pointer (some (Addr.mk b 0 none))), (8, .int .i64 (Int.tmod (iand .i64 x_3 65535) (IntKind.wrap .i64 ((allN : Int) + 1)))), (9, .int .u64 (ishl .u64 (IntKind.wrap .u64 x_5) 3)), (10, .int .i64 to), (103, .bool ((Int.tmod (iand .i64 x_3 65535) (IntKind.wrap .i64 ((allN : Int) + 1))) == (allN : Int)))] (fun w => by kernel_rfl) ?_
                refine N_end (by kernel_rfl) ?_
                refine S_then ?_
                by_cases c44 : (Int.tmod (iand .i64 x_3 65535) (IntKind.wrap .i64 ((allN : Int) + 1))) = (allN : Int)
                · rw [if_pos c44] at h
                  have b45 : ((Int.tmod (iand .i64 x_3 65535) (IntKind.wrap .i64 ((allN : Int) + 1))) == (allN : Int)) = true := beq_iff_eq.mpr c44
                  refine S_env [(0, .slice (some lBA) lN lC), (3, .pointer ra), (5, .slice allB allN allC), (6, .int .i64 i), (7, .pointer (some (Addr.mk b 0 none))), (8, .int .i64 (Int.tmod (iand .i64 x_3 65535) (IntKind.wrap .i64 ((allN : Int) + 1)))), (9, .int .u64 (ishl .u64 (IntKind.wrap .u64 x_5) 3)), (10, .int .i64 to), (103, .bool true)] (by simp only [b45, Bool.not_true, Bool.not_false]) ?_
                  clear b45
                  refine S_condT (.tmp 103) morainelaw20_FrameLexical.k71 morainelaw20_FrameLexical.k72 (by kernel_rfl) (by kernel_rfl) ?_
                  refine S_exit 1 (by kernel_rfl) ?_
                  refine S_exitThen ?_
                  refine S_exitThen ?_
                  refine S_exitHere ?_
                  refine S_then ?_
                  refine S_region 7 (Code.ops morainelaw20_FrameLexical.k28) (by kernel_rfl) ?_
                  refine N_run 3 [(0, .slice (some lBA) lN lC), (3, .pointer ra), (5, .slice allB allN allC), (6, .int .i64 (IntKind.wrap .i64 (i + 1)))] (fun w => by kernel_rfl) ?_
                  refine N_end (by kernel_rfl) ?_
                  refine S_then ?_
                  exact S_round ((allB, allN, allC, (IntKind.wrap .i64 (i + 1))) : (Option Addr) × Nat × Nat × Int) (sb (by kernel_rfl)) h
                · rw [if_neg c44] at h
                  have b45 : ((Int.tmod (iand .i64 x_3 65535) (IntKind.wrap .i64 ((allN : Int) + 1))) == (allN : Int)) = false := beq_eq_false_iff_ne.mpr c44
                  refine S_env [(0, .slice (some lBA) lN lC), (3, .pointer ra), (5, .slice allB allN allC), (6, .int .i64 i), (7, .pointer (some (Addr.mk b 0 none))), (8, .int .i64 (Int.tmod (iand .i64 x_3 65535) (IntKind.wrap .i64 ((allN : Int) + 1)))), (9, .int .u64 (ishl .u64 (IntKind.wrap .u64 x_5) 3)), (10, .int .i64 to), (103, .bool false)] (by simp only [b45, Bool.not_true, Bool.not_false]) ?_
                  clear b45
                  refine S_condF (.tmp 103) morainelaw20_FrameLexical.k71 morainelaw20_FrameLexical.k72 (by kernel_rfl) (by kernel_rfl) ?_
                  refine S_skip (by kernel_rfl) ?_
                  refine S_then ?_
                  refine S_seq morainelaw20_FrameLexical.k73 morainelaw20_FrameLexical.k74 (by kernel_rfl) ?_
                  obtain ⟨allBA_2, rfl, h⟩ := h
                  obtain ⟨q46, h⟩ := h
                  obtain ⟨x_8, q47, h⟩ := h
                  obtain ⟨x_9, q48, h⟩ := h
                  obtain ⟨x_10, q49, h⟩ := h
                  refine S_regionG 20 (Code.ops morainelaw20_FrameLexical.k73) [(11, (allBA_2.add (Int.toNat (Int.tmod (iand .i64 x_3 65535) (IntKind.wrap .i64 ((allN : Int) + 1))) * 3)), [.int .u64 x_8]), (11, ((Addr.mk b 0 none).add 2), [.int .i64 x_9]), (11, ((Addr.mk b 0 none).add 3), [.int .i64 x_10])] 13 #[false, false, false, false, false, false, false, false, false, false, false, false, false] (by kernel_rfl) (by kernel_rfl) (by kernel_rfl) (by kernel_rfl) (by kernel_rfl) (show FactsAt _ _ _ from ⟨⟨q47, trivial⟩, ⟨q48, trivial⟩, ⟨q49, trivial⟩, trivial⟩) ?_
                  refine G_take 0 (some 104) (.pointer ra) #[true, false, false, false, false, false, false, false, false, false, false, false, false] [(0, .slice (some lBA) lN lC), (3, .pointer ra), (5, .slice (some allBA_2) allN allC), (6, .int .i64 i), (7, .pointer (some (Addr.mk b 0 none))), (8, .int .i64 (Int.tmod (iand .i64 x_3 65535) (IntKind.wrap .i64 ((allN : Int) + 1)))), (9, .int .u64 (ishl .u64 (IntKind.wrap .u64 x_5) 3)), (10, .int .i64 to), (104, .pointer ra)] ((pure (.value (.pointer ra)) : Sem Next)) (fun w => by kernel_rfl) (fun _ _ _ _ _ => rfl) (by kernel_rfl) (by kernel_rfl) (by kernel_rfl) (by kernel_rfl) (by kernel_rfl) (ps (by kernel_rfl)) ?_
                  refine G_take 1 (some 105) (.slice (some allBA_2) allN allC) #[true, true, false, false, false, false, false, false, false, false, false, false, false] [(0, .slice (some lBA) lN lC), (3, .pointer ra), (5, .slice (some allBA_2) allN allC), (6, .int .i64 i), (7, .pointer (some (Addr.mk b 0 none))), (8, .int .i64 (Int.tmod (iand .i64 x_3 65535) (IntKind.wrap .i64 ((allN : Int) + 1)))), (9, .int .u64 (ishl .u64 (IntKind.wrap .u64 x_5) 3)), (10, .int .i64 to), (104, .pointer ra), (105, .slice (some allBA_2) allN allC)] ((pure (.value (.slice (some allBA_2) allN allC)) : Sem Next)) (fun w => by kernel_rfl) (fun _ _ _ _ _ => rfl) (by kernel_rfl) (by kernel_rfl) (by kernel_rfl) (by kernel_rfl) (by kernel_rfl) (ps (by kernel_rfl)) ?_
                  refine G_take 2 (some 106) (.int .i64 (Int.tmod (iand .i64 x_3 65535) (IntKind.wrap .i64 ((allN : Int) + 1)))) #[true, true, true, false, false, false, false, false, false, false, false, false, false] [(0, .slice (some lBA) lN lC), (3, .pointer ra), (5, .slice (some allBA_2) allN allC), (6, .int .i64 i), (7, .pointer (some (Addr.mk b 0 none))), (9, .int .u64 (ishl .u64 (IntKind.wrap .u64 x_5) 3)), (10, .int .i64 to), (104, .pointer ra), (105, .slice (some allBA_2) allN allC), (106, .int .i64 (Int.tmod (iand .i64 x_3 65535) (IntKind.wrap .i64 ((allN : Int) + 1))))] ((pure (.value (.int .i64 (Int.tmod (iand .i64 x_3 65535) (IntKind.wrap .i64 ((allN : Int) + 1))))) : Sem Next)) (fun w => by kernel_rfl) (fun _ _ _ _ _ => rfl) (by kernel_rfl) (by kernel_rfl) (by kernel_rfl) (by kernel_rfl) (by kernel_rfl) (ps (by kernel_rfl)) ?_
                  refine G_take 3 (some 107) (.pointer (some (allBA_2.add (Int.toNat (Int.tmod (iand .i64 x_3 65535) (IntKind.wrap .i64 ((allN : Int) + 1))) * 3)))) #[true, true, true, true, false, false, false, false, false, false, false, false, false] [(0, .slice (some lBA) lN lC), (3, .pointer ra), (5, .slice (some allBA_2) allN allC), (6, .int .i64 i), (7, .pointer (some (Addr.mk b 0 none))), (9, .int .u64 (ishl .u64 (IntKind.wrap .u64 x_5) 3)), (10, .int .i64 to), (104, .pointer ra), (107, .pointer (some (allBA_2.add (Int.toNat (Int.tmod (iand .i64 x_3 65535) (IntKind.wrap .i64 ((allN : Int) + 1))) * 3))))] (indexAtN 48 (.slice (some allBA_2) allN allC) (.int .i64 (Int.tmod (iand .i64 x_3 65535) (IntKind.wrap .i64 ((allN : Int) + 1))))) (fun w => by kernel_rfl) (fun _ w _ _ _ => indexAt_run (P := Try.prog) (t := 48) (elem := 52) (sz := 3) (a := allBA_2) (len := allN) (cap := allC) (k := .i64) (i := (Int.tmod (iand .i64 x_3 65535) (IntKind.wrap .i64 ((allN : Int) + 1)))) Try.underlying48 (fun w => by kernel_rfl) q46.1 q46.2 w) (by kernel_rfl) (by kernel_rfl) (by kernel_rfl) (by kernel_rfl) (by kernel_rfl) (ps (by kernel_rfl)) ?_
                  refine G_take 4 (some 108) (.pointer (some (allBA_2.add (Int.toNat (Int.tmod (iand .i64 x_3 65535) (IntKind.wrap .i64 ((allN : Int) + 1))) * 3)))) #[true, true, true, true, true, false, false, false, false, false, false, false, false] [(0, .slice (some lBA) lN lC), (3, .pointer ra), (5, .slice (some allBA_2) allN allC), (6, .int .i64 i), (7, .pointer (some (Addr.mk b 0 none))), (9, .int .u64 (ishl .u64 (IntKind.wrap .u64 x_5) 3)), (10, .int .i64 to), (104, .pointer ra), (108, .pointer (some (allBA_2.add (Int.toNat (Int.tmod (iand .i64 x_3 65535) (IntKind.wrap .i64 ((allN : Int) + 1))) * 3))))] ((pure (.value (.pointer (some (allBA_2.add (Int.toNat (Int.tmod (iand .i64 x_3 65535) (IntKind.wrap .i64 ((allN : Int) + 1))) * 3))))) : Sem Next)) (fun w => by kernel_rfl) (fun _ _ _ _ _ => rfl) (by kernel_rfl) (by kernel_rfl) (by kernel_rfl) (by kernel_rfl) (by kernel_rfl) (ps (by kernel_rfl)) ?_
                  refine G_take 5 (some 109) (.int .u64 x_8) #[true, true, true, true, true, true, false, false, false, false, false, false, false] [(0, .slice (some lBA) lN lC), (3, .pointer ra), (5, .slice (some allBA_2) allN allC), (6, .int .i64 i), (7, .pointer (some (Addr.mk b 0 none))), (9, .int .u64 (ishl .u64 (IntKind.wrap .u64 x_5) 3)), (10, .int .i64 to), (104, .pointer ra), (109, .int .u64 x_8)] (loadN 29 (.pointer (some (allBA_2.add (Int.toNat (Int.tmod (iand .i64 x_3 65535) (IntKind.wrap .i64 ((allN : Int) + 1))) * 3))))) (fun w => by kernel_rfl) (held_one 11 (fun w => by kernel_rfl) (List.Mem.head _) (.inl (by kernel_rfl))) (by kernel_rfl) (by kernel_rfl) (by kernel_rfl) (by kernel_rfl) (by kernel_rfl) (ps (by kernel_rfl)) ?_
                  refine G_take 6 (some 110) (.pointer (some ((Addr.mk b 0 none).add 2))) #[true, true, true, true, true, true, true, false, false, false, false, false, false] [(0, .slice (some lBA) lN lC), (3, .pointer ra), (5, .slice (some allBA_2) allN allC), (6, .int .i64 i), (7, .pointer (some (Addr.mk b 0 none))), (9, .int .u64 (ishl .u64 (IntKind.wrap .u64 x_5) 3)), (10, .int .i64 to), (104, .pointer ra), (109, .int .u64 x_8), (110, .pointer (some ((Addr.mk b 0 none).add 2)))] ((pure (.value (.pointer (some ((Addr.mk b 0 none).add 2)))) : Sem Next)) (fun w => by kernel_rfl) (fun _ _ _ _ _ => rfl) (by kernel_rfl) (by kernel_rfl) (by kernel_rfl) (by kernel_rfl) (by kernel_rfl) (ps (by kernel_rfl)) ?_
                  refine G_take 7 (some 111) (.int .i64 x_9) #[true, true, true, true, true, true, true, true, false, false, false, false, false] [(0, .slice (some lBA) lN lC), (3, .pointer ra), (5, .slice (some allBA_2) allN allC), (6, .int .i64 i), (7, .pointer (some (Addr.mk b 0 none))), (9, .int .u64 (ishl .u64 (IntKind.wrap .u64 x_5) 3)), (10, .int .i64 to), (104, .pointer ra), (109, .int .u64 x_8), (111, .int .i64 x_9)] (loadN 3 (.pointer (some ((Addr.mk b 0 none).add 2)))) (fun w => by kernel_rfl) (held_one 11 (fun w => by kernel_rfl) (List.Mem.tail _ (List.Mem.head _)) (.inl (by kernel_rfl))) (by kernel_rfl) (by kernel_rfl) (by kernel_rfl) (by kernel_rfl) (by kernel_rfl) (ps (by kernel_rfl)) ?_
                  refine G_take 8 (some 112) (.pointer (some ((Addr.mk b 0 none).add 3))) #[true, true, true, true, true, true, true, true, true, false, false, false, false] [(0, .slice (some lBA) lN lC), (3, .pointer ra), (5, .slice (some allBA_2) allN allC), (6, .int .i64 i), (7, .pointer (some (Addr.mk b 0 none))), (9, .int .u64 (ishl .u64 (IntKind.wrap .u64 x_5) 3)), (10, .int .i64 to), (104, .pointer ra), (109, .int .u64 x_8), (111, .int .i64 x_9), (112, .pointer (some ((Addr.mk b 0 none).add 3)))] ((pure (.value (.pointer (some ((Addr.mk b 0 none).add 3)))) : Sem Next)) (fun w => by kernel_rfl) (fun _ _ _ _ _ => rfl) (by kernel_rfl) (by kernel_rfl) (by kernel_rfl) (by kernel_rfl) (by kernel_rfl) (ps (by kernel_rfl)) ?_
                  refine G_take 9 (some 113) (.int .i64 x_10) #[true, true, true, true, true, true, true, true, true, true, false, false, false] [(0, .slice (some lBA) lN lC), (3, .pointer ra), (5, .slice (some allBA_2) allN allC), (6, .int .i64 i), (7, .pointer (some (Addr.mk b 0 none))), (9, .int .u64 (ishl .u64 (IntKind.wrap .u64 x_5) 3)), (10, .int .i64 to), (104, .pointer ra), (109, .int .u64 x_8), (111, .int .i64 x_9), (113, .int .i64 x_10)] (loadN 3 (.pointer (some ((Addr.mk b 0 none).add 3)))) (fun w => by kernel_rfl) (held_one 11 (fun w => by kernel_rfl) (List.Mem.tail _ (List.Mem.tail _ (List.Mem.head _))) (.inl (by kernel_rfl))) (by kernel_rfl) (by kernel_rfl) (by kernel_rfl) (by kernel_rfl) (by kernel_rfl) (ps (by kernel_rfl)) ?_
                  refine G_take 10 (some 114) (.int .u64 (ishl .u64 (IntKind.wrap .u64 x_5) 3)) #[true, true, true, true, true, true, true, true, true, true, true, false, false] [(0, .slice (some lBA) lN lC), (3, .pointer ra), (5, .slice (some allBA_2) allN allC), (6, .int .i64 i), (7, .pointer (some (Addr.mk b 0 none))), (9, .int .u64 (ishl .u64 (IntKind.wrap .u64 x_5) 3)), (10, .int .i64 to), (104, .pointer ra), (109, .int .u64 x_8), (111, .int .i64 x_9), (113, .int .i64 x_10), (114, .int .u64 (ishl .u64 (IntKind.wrap .u64 x_5) 3))] ((pure (.value (.int .u64 (ishl .u64 (IntKind.wrap .u64 x_5) 3))) : Sem Next)) (fun w => by kernel_rfl) (fun _ _ _ _ _ => rfl) (by kernel_rfl) (by kernel_rfl) (by kernel_rfl) (by kernel_rfl) (by kernel_rfl) (ps (by kernel_rfl)) ?_
                  refine G_call 11 (some 115) #[true, true, true, true, true, true, true, true, true, true, true, true, false] 19 #[.pointer ra, .int .u64 x_8, .int .i64 x_9, .int .i64 x_10, .int .u64 (ishl .u64 (IntKind.wrap .u64 x_5) 3)] (by kernel_rfl) (fun w => by kernel_rfl) h (by kernel_rfl) ?_; clear h
                  rintro v_4 H9 ⟨x_11, rfl, h⟩
                  refine ⟨[(0, .slice (some lBA) lN lC), (3, .pointer ra), (5, .slice (some allBA_2) allN allC), (6, .int .i64 i), (7, .pointer (some (Addr.mk b 0 none))), (9, .int .u64 (ishl .u64 (IntKind.wrap .u64 x_5) 3)), (10, .int .i64 to), (115, .int .i64 x_11)], ps (by kernel_rfl), (show FactsAt _ _ _ from ⟨trivial, trivial, trivial, trivial⟩), ?_⟩
                  refine G_take 12 (some 12) (.int .i64 x_11) #[true, true, true, true, true, true, true, true, true, true, true, true, true] [(0, .slice (some lBA) lN lC), (3, .pointer ra), (5, .slice (some allBA_2) allN allC), (6, .int .i64 i), (7, .pointer (some (Addr.mk b 0 none))), (9, .int .u64 (ishl .u64 (IntKind.wrap .u64 x_5) 3)), (10, .int .i64 to), (12, .int .i64 x_11)] (pure (.value (.int .i64 x_11)) : Sem Next) (fun w => by kernel_rfl) (fun _ _ _ _ _ => rfl) (by kernel_rfl) (by kernel_rfl) (by kernel_rfl) (by kernel_rfl) (by kernel_rfl) (ps (by kernel_rfl)) ?_
                  refine G_sub [(0, .slice (some lBA) lN lC), (3, .pointer ra), (5, .slice (some allBA_2) allN allC), (6, .int .i64 i), (7, .pointer (some (Addr.mk b 0 none))), (9, .int .u64 (ishl .u64 (IntKind.wrap .u64 x_5) 3)), (10, .int .i64 to), (12, .int .i64 x_11)] (sb (by kernel_rfl)) ?_
                  refine G_end (by kernel_rfl) ?_
                  refine S_then ?_
                  refine S_seq morainelaw20_FrameLexical.k75 morainelaw20_FrameLexical.k76 (by kernel_rfl) ?_
                  obtain ⟨J_2, h, j51⟩ := h
                  refine S_join (σ := Bool) (fun s_ => [(0, .slice (some lBA) lN lC), (3, .pointer ra), (5, .slice (some allBA_2) allN allC), (6, .int .i64 i), (7, .pointer (some (Addr.mk b 0 none))), (9, .int .u64 (ishl .u64 (IntKind.wrap .u64 x_5) 3)), (10, .int .i64 to), (12, .int .i64 x_11), (13, .bool s_)]) (fun s_ H => J_2 s_ H) ?_ ?_
                  · rintro there H10 j52
                    replace h := j51 there H10 j52
                    refine S_sub [(0, .slice (some lBA) lN lC), (3, .pointer ra), (5, .slice (some allBA_2) allN allC), (6, .int .i64 i), (7, .pointer (some (Addr.mk b 0 none))), (9, .int .u64 (ishl .u64 (IntKind.wrap .u64 x_5) 3)), (10, .int .i64 to), (12, .int .i64 x_11), (13, .bool there)] (sb (by kernel_rfl)) ?_
                    refine S_then ?_
                    refine S_seq morainelaw20_FrameLexical.k77 morainelaw20_FrameLexical.k78 (by kernel_rfl) ?_
                    refine S_seq morainelaw20_FrameLexical.k79 morainelaw20_FrameLexical.k80 (by kernel_rfl) ?_
                    refine S_region 22 (Code.ops morainelaw20_FrameLexical.k79) (by kernel_rfl) ?_
                    refine N_run 4 [(0, .slice (some lBA) lN lC), (3, .pointer ra), (5, .slice (some allBA_2) allN allC), (6, .int .i64 i), (7, .pointer (some (Addr.mk b 0 none))), (9, .int .u64 (ishl .u64 (IntKind.wrap .u64 x_5) 3)), (10, .int .i64 to), (13, .bool there), (148, .bool (!((x_11 == 0) == there)))] (fun w => by kernel_rfl) ?_
                    refine N_end (by kernel_rfl) ?_
                    refine S_then ?_
                    by_cases c53 : (x_11 == 0) = there
                    · rw [if_pos c53] at h
                      have b54 : (!((x_11 == 0) == there)) = false := congrArg Bool.not (beq_iff_eq.mpr c53)
                      refine S_env [(0, .slice (some lBA) lN lC), (3, .pointer ra), (5, .slice (some allBA_2) allN allC), (6, .int .i64 i), (7, .pointer (some (Addr.mk b 0 none))), (9, .int .u64 (ishl .u64 (IntKind.wrap .u64 x_5) 3)), (10, .int .i64 to), (13, .bool there), (148, .bool false)] (by simp only [b54, Bool.not_true, Bool.not_false]) ?_
                      clear b54
                      refine S_condF (.tmp 148) morainelaw20_FrameLexical.k81 morainelaw20_FrameLexical.k82 (by kernel_rfl) (by kernel_rfl) ?_
                      refine S_skip (by kernel_rfl) ?_
                      refine S_then ?_
                      refine S_seq morainelaw20_FrameLexical.k83 morainelaw20_FrameLexical.k84 (by kernel_rfl) ?_
                      refine S_seq morainelaw20_FrameLexical.k85 morainelaw20_FrameLexical.k86 (by kernel_rfl) ?_
                      refine S_region 24 (Code.ops morainelaw20_FrameLexical.k85) (by kernel_rfl) ?_
                      refine N_run 1 [(0, .slice (some lBA) lN lC), (3, .pointer ra), (5, .slice (some allBA_2) allN allC), (6, .int .i64 i), (7, .pointer (some (Addr.mk b 0 none))), (9, .int .u64 (ishl .u64 (IntKind.wrap .u64 x_5) 3)), (10, .int .i64 to), (149, .bool there)] (fun w => by kernel_rfl) ?_
                      refine N_end (by kernel_rfl) ?_
                      refine S_then ?_
                      obtain ⟨J_3, h, j56⟩ := h
                      refine S_join (σ := Unit) (fun s_ => [(0, .slice (some lBA) lN lC), (3, .pointer ra), (5, .slice (some allBA_2) allN allC), (6, .int .i64 i)]) (fun s_ H => J_3  H) ?_ ?_
                      · rintro _ H11 j57
                        replace h := j56 H11 j57
                        refine S_sub [(0, .slice (some lBA) lN lC), (3, .pointer ra), (5, .slice (some allBA_2) allN allC), (6, .int .i64 i)] (sb (by kernel_rfl)) ?_
                        refine S_then ?_
                        refine S_exit 1 (by kernel_rfl) ?_
                        refine S_exitThen ?_
                        refine S_exitHere ?_
                        refine S_then ?_
                        refine S_region 7 (Code.ops morainelaw20_FrameLexical.k28) (by kernel_rfl) ?_
                        refine N_run 3 [(0, .slice (some lBA) lN lC), (3, .pointer ra), (5, .slice (some allBA_2) allN allC), (6, .int .i64 (IntKind.wrap .i64 (i + 1)))] (fun w => by kernel_rfl) ?_
                        refine N_end (by kernel_rfl) ?_
                        refine S_then ?_
                        exact S_round (((some allBA_2), allN, allC, (IntKind.wrap .i64 (i + 1))) : (Option Addr) × Nat × Nat × Int) (sb (by kernel_rfl)) h
                      · by_cases c58 : there = true
                        · rw [if_pos c58] at h
                          have b59 : there = true := c58
                          refine S_env [(0, .slice (some lBA) lN lC), (3, .pointer ra), (5, .slice (some allBA_2) allN allC), (6, .int .i64 i), (7, .pointer (some (Addr.mk b 0 none))), (9, .int .u64 (ishl .u64 (IntKind.wrap .u64 x_5) 3)), (10, .int .i64 to), (149, .bool true)] (by simp only [b59, Bool.not_true, Bool.not_false]) ?_
                          clear b59
                          refine S_condT (.tmp 149) morainelaw20_FrameLexical.k87 morainelaw20_FrameLexical.k88 (by kernel_rfl) (by kernel_rfl) ?_
                          obtain ⟨q60, h⟩ := h
                          obtain ⟨xB_2, xN_2, xC_2, q61, h⟩ := h
                          obtain ⟨x_12, q62, h⟩ := h
                          obtain ⟨xB2A, rfl, h⟩ := h
                          obtain ⟨q63, h⟩ := h
                          refine S_regionG 25 (Code.ops morainelaw20_FrameLexical.k87) [(9, ((allBA_2.add (Int.toNat to * 3)).add 2), [.slice (some xB2A) xN_2 xC_2]), (9, ((Addr.mk b 0 none).add 3), [.int .i64 x_12])] 10 #[false, false, false, false, false, false, false, false, false, false] (by kernel_rfl) (by kernel_rfl) (by kernel_rfl) (by kernel_rfl) (by kernel_rfl) (show FactsAt _ _ _ from ⟨⟨q61, trivial⟩, ⟨q62, trivial⟩, trivial⟩) ?_
                          refine G_take 0 (some 150) (.slice (some allBA_2) allN allC) #[true, false, false, false, false, false, false, false, false, false] [(0, .slice (some lBA) lN lC), (3, .pointer ra), (5, .slice (some allBA_2) allN allC), (6, .int .i64 i), (7, .pointer (some (Addr.mk b 0 none))), (9, .int .u64 (ishl .u64 (IntKind.wrap .u64 x_5) 3)), (10, .int .i64 to), (150, .slice (some allBA_2) allN allC)] ((pure (.value (.slice (some allBA_2) allN allC)) : Sem Next)) (fun w => by kernel_rfl) (fun _ _ _ _ _ => rfl) (by kernel_rfl) (by kernel_rfl) (by kernel_rfl) (by kernel_rfl) (by kernel_rfl) (ps (by kernel_rfl)) ?_
                          refine G_take 1 (some 151) (.int .i64 to) #[true, true, false, false, false, false, false, false, false, false] [(0, .slice (some lBA) lN lC), (3, .pointer ra), (5, .slice (some allBA_2) allN allC), (6, .int .i64 i), (7, .pointer (some (Addr.mk b 0 none))), (9, .int .u64 (ishl .u64 (IntKind.wrap .u64 x_5) 3)), (150, .slice (some allBA_2) allN allC), (151, .int .i64 to)] ((pure (.value (.int .i64 to)) : Sem Next)) (fun w => by kernel_rfl) (fun _ _ _ _ _ => rfl) (by kernel_rfl) (by kernel_rfl) (by kernel_rfl) (by kernel_rfl) (by kernel_rfl) (ps (by kernel_rfl)) ?_
                          refine G_take 2 (some 152) (.pointer (some (allBA_2.add (Int.toNat to * 3)))) #[true, true, true, false, false, false, false, false, false, false] [(0, .slice (some lBA) lN lC), (3, .pointer ra), (5, .slice (some allBA_2) allN allC), (6, .int .i64 i), (7, .pointer (some (Addr.mk b 0 none))), (9, .int .u64 (ishl .u64 (IntKind.wrap .u64 x_5) 3)), (152, .pointer (some (allBA_2.add (Int.toNat to * 3))))] (indexAtN 48 (.slice (some allBA_2) allN allC) (.int .i64 to)) (fun w => by kernel_rfl) (fun _ w _ _ _ => indexAt_run (P := Try.prog) (t := 48) (elem := 52) (sz := 3) (a := allBA_2) (len := allN) (cap := allC) (k := .i64) (i := to) Try.underlying48 (fun w => by kernel_rfl) q60.1 q60.2 w) (by kernel_rfl) (by kernel_rfl) (by kernel_rfl) (by kernel_rfl) (by kernel_rfl) (ps (by kernel_rfl)) ?_
                          refine G_take 3 (some 153) (.pointer (some ((allBA_2.add (Int.toNat to * 3)).add 2))) #[true, true, true, true, false, false, false, false, false, false] [(0, .slice (some lBA) lN lC), (3, .pointer ra), (5, .slice (some allBA_2) allN allC), (6, .int .i64 i), (7, .pointer (some (Addr.mk b 0 none))), (9, .int .u64 (ishl .u64 (IntKind.wrap .u64 x_5) 3)), (153, .pointer (some ((allBA_2.add (Int.toNat to * 3)).add 2)))] ((pure (.value (.pointer (some ((allBA_2.add (Int.toNat to * 3)).add 2)))) : Sem Next)) (fun w => by kernel_rfl) (fun _ _ _ _ _ => rfl) (by kernel_rfl) (by kernel_rfl) (by kernel_rfl) (by kernel_rfl) (by kernel_rfl) (ps (by kernel_rfl)) ?_
                          refine G_take 4 (some 154) (.slice (some xB2A) xN_2 xC_2) #[true, true, true, true, true, false, false, false, false, false] [(0, .slice (some lBA) lN lC), (3, .pointer ra), (5, .slice (some allBA_2) allN allC), (6, .int .i64 i), (7, .pointer (some (Addr.mk b 0 none))), (9, .int .u64 (ishl .u64 (IntKind.wrap .u64 x_5) 3)), (154, .slice (some xB2A) xN_2 xC_2)] (loadN 39 (.pointer (some ((allBA_2.add (Int.toNat to * 3)).add 2)))) (fun w => by kernel_rfl) (held_one 9 (fun w => by kernel_rfl) (List.Mem.head _) (.inl (by kernel_rfl))) (by kernel_rfl) (by kernel_rfl) (by kernel_rfl) (by kernel_rfl) (by kernel_rfl) (ps (by kernel_rfl)) ?_
                          refine G_take 5 (some 155) (.pointer (some ((Addr.mk b 0 none).add 3))) #[true, true, true, true, true, true, false, false, false, false] [(0, .slice (some lBA) lN lC), (3, .pointer ra), (5, .slice (some allBA_2) allN allC), (6, .int .i64 i), (9, .int .u64 (ishl .u64 (IntKind.wrap .u64 x_5) 3)), (154, .slice (some xB2A) xN_2 xC_2), (155, .pointer (some ((Addr.mk b 0 none).add 3)))] ((pure (.value (.pointer (some ((Addr.mk b 0 none).add 3)))) : Sem Next)) (fun w => by kernel_rfl) (fun _ _ _ _ _ => rfl) (by kernel_rfl) (by kernel_rfl) (by kernel_rfl) (by kernel_rfl) (by kernel_rfl) (ps (by kernel_rfl)) ?_
                          refine G_take 6 (some 156) (.int .i64 x_12) #[true, true, true, true, true, true, true, false, false, false] [(0, .slice (some lBA) lN lC), (3, .pointer ra), (5, .slice (some allBA_2) allN allC), (6, .int .i64 i), (9, .int .u64 (ishl .u64 (IntKind.wrap .u64 x_5) 3)), (154, .slice (some xB2A) xN_2 xC_2), (156, .int .i64 x_12)] (loadN 3 (.pointer (some ((Addr.mk b 0 none).add 3)))) (fun w => by kernel_rfl) (held_one 9 (fun w => by kernel_rfl) (List.Mem.tail _ (List.Mem.head _)) (.inl (by kernel_rfl))) (by kernel_rfl) (by kernel_rfl) (by kernel_rfl) (by kernel_rfl) (by kernel_rfl) (ps (by kernel_rfl)) ?_
                          refine G_take 7 (some 157) (.int .u64 (ishl .u64 (IntKind.wrap .u64 x_5) 3)) #[true, true, true, true, true, true, true, true, false, false] [(0, .slice (some lBA) lN lC), (3, .pointer ra), (5, .slice (some allBA_2) allN allC), (6, .int .i64 i), (154, .slice (some xB2A) xN_2 xC_2), (156, .int .i64 x_12), (157, .int .u64 (ishl .u64 (IntKind.wrap .u64 x_5) 3))] ((pure (.value (.int .u64 (ishl .u64 (IntKind.wrap .u64 x_5) 3))) : Sem Next)) (fun w => by kernel_rfl) (fun _ _ _ _ _ => rfl) (by kernel_rfl) (by kernel_rfl) (by kernel_rfl) (by kernel_rfl) (by kernel_rfl) (ps (by kernel_rfl)) ?_
                          refine G_take 8 (some 158) (.pointer (some (xB2A.add (Int.toNat x_12 * 1)))) #[true, true, true, true, true, true, true, true, true, false] [(0, .slice (some lBA) lN lC), (3, .pointer ra), (5, .slice (some allBA_2) allN allC), (6, .int .i64 i), (157, .int .u64 (ishl .u64 (IntKind.wrap .u64 x_5) 3)), (158, .pointer (some (xB2A.add (Int.toNat x_12 * 1))))] (indexAtN 39 (.slice (some xB2A) xN_2 xC_2) (.int .i64 x_12)) (fun w => by kernel_rfl) (fun _ w _ _ _ => indexAt_run (P := Try.prog) (t := 39) (elem := 29) (sz := 1) (a := xB2A) (len := xN_2) (cap := xC_2) (k := .i64) (i := x_12) Try.underlying39 (fun w => by kernel_rfl) q63.1 q63.2 w) (by kernel_rfl) (by kernel_rfl) (by kernel_rfl) (by kernel_rfl) (by kernel_rfl) (ps (by kernel_rfl)) ?_
                          obtain ⟨q65, h⟩ := h
                          refine G_onlyskip 9 none #[true, true, true, true, true, true, true, true, true, true] (storeN 29 (.pointer (some (xB2A.add (Int.toNat x_12 * 1)))) (.int .u64 (ishl .u64 (IntKind.wrap .u64 x_5) 3))) (fun Hz => Hz = hputs H10 (xB2A.add (Int.toNat x_12 * 1)) [.int .u64 (ishl .u64 (IntKind.wrap .u64 x_5) 3)] 0) (by kernel_rfl) (fun w => by kernel_rfl) (ss_store [.int .u64 (ishl .u64 (IntKind.wrap .u64 x_5) 3)] 1 (by kernel_rfl) (by kernel_rfl) (fun w => by kernel_rfl) (by kernel_rfl) q65) (by kernel_rfl) ?_
                          intro H12 e64
                          replace h := h H12 e64
                          refine ⟨[(0, .slice (some lBA) lN lC), (3, .pointer ra), (5, .slice (some allBA_2) allN allC), (6, .int .i64 i)], ps (by kernel_rfl), (show FactsAt _ _ _ from ⟨trivial, trivial, trivial⟩), ?_⟩
                          refine G_sub [(0, .slice (some lBA) lN lC), (3, .pointer ra), (5, .slice (some allBA_2) allN allC), (6, .int .i64 i)] (sb (by kernel_rfl)) ?_
                          refine G_end (by kernel_rfl) ?_
                          refine S_then ?_
                          exact S_meet (() : Unit) (sb (by kernel_rfl)) h
                        · rw [if_neg c58] at h
                          have b59 : there = false := eq_false_of_ne_true c58
                          refine S_env [(0, .slice (some lBA) lN lC), (3, .pointer ra), (5, .slice (some allBA_2) allN allC), (6, .int .i64 i), (7, .pointer (some (Addr.mk b 0 none))), (9, .int .u64 (ishl .u64 (IntKind.wrap .u64 x_5) 3)), (10, .int .i64 to), (149, .bool false)] (by simp only [b59, Bool.not_true, Bool.not_false]) ?_
                          clear b59
                          refine S_condF (.tmp 149) morainelaw20_FrameLexical.k87 morainelaw20_FrameLexical.k88 (by kernel_rfl) (by kernel_rfl) ?_
                          refine S_skip (by kernel_rfl) ?_
                          refine S_then ?_
                          exact S_meet (() : Unit) (sb (by kernel_rfl)) h
                    · rw [if_neg c53] at h
                      have b54 : (!((x_11 == 0) == there)) = true := congrArg Bool.not (beq_eq_false_iff_ne.mpr c53)
                      refine S_env [(0, .slice (some lBA) lN lC), (3, .pointer ra), (5, .slice (some allBA_2) allN allC), (6, .int .i64 i), (7, .pointer (some (Addr.mk b 0 none))), (9, .int .u64 (ishl .u64 (IntKind.wrap .u64 x_5) 3)), (10, .int .i64 to), (13, .bool there), (148, .bool true)] (by simp only [b54, Bool.not_true, Bool.not_false]) ?_
                      clear b54
                      refine S_condT (.tmp 148) morainelaw20_FrameLexical.k81 morainelaw20_FrameLexical.k82 (by kernel_rfl) (by kernel_rfl) ?_
                      refine S_seq morainelaw20_FrameLexical.k89 morainelaw20_FrameLexical.k90 (by kernel_rfl) ?_
                      refine S_region 23 (Code.ops morainelaw20_FrameLexical.k89) (by kernel_rfl) ?_
                      refine N_run 1 [(2, .bool false)] (fun w => by kernel_rfl) ?_
                      refine N_end (by kernel_rfl) ?_
                      refine S_then ?_
                      refine S_ret (by kernel_rfl) ?_
                      show At _ _ _ _ (Q .ret)
                      exact S_done (fn := Try.f5) [.bool false] hQ (show ResOK _ _ _ [.tmp 2] _ from .tmp (by kernel_rfl) (.nil)) h
                  · refine S_regionQ 21 (Code.ops morainelaw20_FrameLexical.k75) (by kernel_rfl) (by kernel_rfl) (by kernel_rfl) ?_
                    refine Q_one (.pointer (some ((Addr.mk b 0 none).add 2))) [(0, .slice (some lBA) lN lC), (3, .pointer ra), (5, .slice (some allBA_2) allN allC), (6, .int .i64 i), (7, .pointer (some (Addr.mk b 0 none))), (9, .int .u64 (ishl .u64 (IntKind.wrap .u64 x_5) 3)), (10, .int .i64 to), (12, .int .i64 x_11), (116, .pointer (some ((Addr.mk b 0 none).add 2)))] (some 116) (by kernel_rfl) (fun w => by kernel_rfl) (ps (by kernel_rfl)) ?_
                    obtain ⟨x_13, q66, h⟩ := h
                    refine Q_op (some 117) (loadN 3 (.pointer (some ((Addr.mk b 0 none).add 2)))) (.int .i64 x_13) (fun w => by kernel_rfl) (loadN_run (loadOK_one (fun w => by kernel_rfl) q66)) [(0, .slice (some lBA) lN lC), (3, .pointer ra), (5, .slice (some allBA_2) allN allC), (6, .int .i64 i), (7, .pointer (some (Addr.mk b 0 none))), (9, .int .u64 (ishl .u64 (IntKind.wrap .u64 x_5) 3)), (10, .int .i64 to), (12, .int .i64 x_11), (117, .int .i64 x_13)] (ps (by kernel_rfl)) ?_
                    refine Q_one (.bool (decide (x_13 ≥ 0))) [(0, .slice (some lBA) lN lC), (3, .pointer ra), (5, .slice (some allBA_2) allN allC), (6, .int .i64 i), (7, .pointer (some (Addr.mk b 0 none))), (9, .int .u64 (ishl .u64 (IntKind.wrap .u64 x_5) 3)), (10, .int .i64 to), (12, .int .i64 x_11), (118, .bool (decide (x_13 ≥ 0)))] (some 118) (by kernel_rfl) (fun w => by kernel_rfl) (ps (by kernel_rfl)) ?_
                    refine Q_one (.bool (decide (x_13 ≥ 0))) [(0, .slice (some lBA) lN lC), (3, .pointer ra), (5, .slice (some allBA_2) allN allC), (6, .int .i64 i), (7, .pointer (some (Addr.mk b 0 none))), (9, .int .u64 (ishl .u64 (IntKind.wrap .u64 x_5) 3)), (10, .int .i64 to), (12, .int .i64 x_11), (119, .bool (decide (x_13 ≥ 0)))] (some 119) (by kernel_rfl) (fun w => by kernel_rfl) (ps (by kernel_rfl)) ?_
                    by_cases c67 : x_13 ≥ 0
                    · rw [if_pos c67] at h
                      have b68 : (decide (x_13 ≥ 0)) = true := decide_eq_true c67
                      refine Q_env [(0, .slice (some lBA) lN lC), (3, .pointer ra), (5, .slice (some allBA_2) allN allC), (6, .int .i64 i), (7, .pointer (some (Addr.mk b 0 none))), (9, .int .u64 (ishl .u64 (IntKind.wrap .u64 x_5) 3)), (10, .int .i64 to), (12, .int .i64 x_11), (119, .bool true)] (by simp only [b68, Bool.not_true, Bool.not_false]) ?_
                      clear b68
                      refine Q_one (.pointer (some ((Addr.mk b 0 none).add 2))) [(0, .slice (some lBA) lN lC), (3, .pointer ra), (5, .slice (some allBA_2) allN allC), (6, .int .i64 i), (7, .pointer (some (Addr.mk b 0 none))), (9, .int .u64 (ishl .u64 (IntKind.wrap .u64 x_5) 3)), (10, .int .i64 to), (12, .int .i64 x_11), (119, .bool true), (120, .pointer (some ((Addr.mk b 0 none).add 2)))] (some 120) (by kernel_rfl) (fun w => by kernel_rfl) (ps (by kernel_rfl)) ?_
                      obtain ⟨x_14, q69, h⟩ := h
                      refine Q_op (some 121) (loadN 3 (.pointer (some ((Addr.mk b 0 none).add 2)))) (.int .i64 x_14) (fun w => by kernel_rfl) (loadN_run (loadOK_one (fun w => by kernel_rfl) q69)) [(0, .slice (some lBA) lN lC), (3, .pointer ra), (5, .slice (some allBA_2) allN allC), (6, .int .i64 i), (7, .pointer (some (Addr.mk b 0 none))), (9, .int .u64 (ishl .u64 (IntKind.wrap .u64 x_5) 3)), (10, .int .i64 to), (12, .int .i64 x_11), (119, .bool true), (121, .int .i64 x_14)] (ps (by kernel_rfl)) ?_
                      refine Q_one (.bool (decide (x_14 < 1000))) [(0, .slice (some lBA) lN lC), (3, .pointer ra), (5, .slice (some allBA_2) allN allC), (6, .int .i64 i), (7, .pointer (some (Addr.mk b 0 none))), (9, .int .u64 (ishl .u64 (IntKind.wrap .u64 x_5) 3)), (10, .int .i64 to), (12, .int .i64 x_11), (119, .bool true), (122, .bool (decide (x_14 < 1000)))] (some 122) (by kernel_rfl) (fun w => by kernel_rfl) (ps (by kernel_rfl)) ?_
                      refine Q_one (.bool (decide (x_14 < 1000))) [(0, .slice (some lBA) lN lC), (3, .pointer ra), (5, .slice (some allBA_2) allN allC), (6, .int .i64 i), (7, .pointer (some (Addr.mk b 0 none))), (9, .int .u64 (ishl .u64 (IntKind.wrap .u64 x_5) 3)), (10, .int .i64 to), (12, .int .i64 x_11), (123, .bool (decide (x_14 < 1000)))] (some 123) (by kernel_rfl) (fun w => by kernel_rfl) (ps (by kernel_rfl)) ?_
                      refine Q_one (.bool (decide (x_14 < 1000))) [(0, .slice (some lBA) lN lC), (3, .pointer ra), (5, .slice (some allBA_2) allN allC), (6, .int .i64 i), (7, .pointer (some (Addr.mk b 0 none))), (9, .int .u64 (ishl .u64 (IntKind.wrap .u64 x_5) 3)), (10, .int .i64 to), (12, .int .i64 x_11), (124, .bool (decide (x_14 < 1000)))] (some 124) (by kernel_rfl) (fun w => by kernel_rfl) (ps (by kernel_rfl)) ?_
                      by_cases c70 : x_14 < 1000
                      · rw [if_pos c70] at h
                        have b71 : (decide (x_14 < 1000)) = true := decide_eq_true c70
                        refine Q_env [(0, .slice (some lBA) lN lC), (3, .pointer ra), (5, .slice (some allBA_2) allN allC), (6, .int .i64 i), (7, .pointer (some (Addr.mk b 0 none))), (9, .int .u64 (ishl .u64 (IntKind.wrap .u64 x_5) 3)), (10, .int .i64 to), (12, .int .i64 x_11), (124, .bool true)] (by simp only [b71, Bool.not_true, Bool.not_false]) ?_
                        clear b71
                        refine Q_one (.int .i64 to) [(0, .slice (some lBA) lN lC), (3, .pointer ra), (5, .slice (some allBA_2) allN allC), (6, .int .i64 i), (7, .pointer (some (Addr.mk b 0 none))), (9, .int .u64 (ishl .u64 (IntKind.wrap .u64 x_5) 3)), (10, .int .i64 to), (12, .int .i64 x_11), (124, .bool true), (125, .int .i64 to)] (some 125) (by kernel_rfl) (fun w => by kernel_rfl) (ps (by kernel_rfl)) ?_
                        refine Q_one (.bool (decide (to ≥ 0))) [(0, .slice (some lBA) lN lC), (3, .pointer ra), (5, .slice (some allBA_2) allN allC), (6, .int .i64 i), (7, .pointer (some (Addr.mk b 0 none))), (9, .int .u64 (ishl .u64 (IntKind.wrap .u64 x_5) 3)), (10, .int .i64 to), (12, .int .i64 x_11), (124, .bool true), (126, .bool (decide (to ≥ 0)))] (some 126) (by kernel_rfl) (fun w => by kernel_rfl) (ps (by kernel_rfl)) ?_
                        refine Q_one (.bool (decide (to ≥ 0))) [(0, .slice (some lBA) lN lC), (3, .pointer ra), (5, .slice (some allBA_2) allN allC), (6, .int .i64 i), (7, .pointer (some (Addr.mk b 0 none))), (9, .int .u64 (ishl .u64 (IntKind.wrap .u64 x_5) 3)), (10, .int .i64 to), (12, .int .i64 x_11), (127, .bool (decide (to ≥ 0)))] (some 127) (by kernel_rfl) (fun w => by kernel_rfl) (ps (by kernel_rfl)) ?_
                        refine Q_one (.bool (decide (to ≥ 0))) [(0, .slice (some lBA) lN lC), (3, .pointer ra), (5, .slice (some allBA_2) allN allC), (6, .int .i64 i), (7, .pointer (some (Addr.mk b 0 none))), (9, .int .u64 (ishl .u64 (IntKind.wrap .u64 x_5) 3)), (10, .int .i64 to), (12, .int .i64 x_11), (128, .bool (decide (to ≥ 0)))] (some 128) (by kernel_rfl) (fun w => by kernel_rfl) (ps (by kernel_rfl)) ?_
                        by_cases c72 : to ≥ 0
                        · rw [if_pos c72] at h
                          have b73 : (decide (to ≥ 0)) = true := decide_eq_true c72
                          refine Q_env [(0, .slice (some lBA) lN lC), (3, .pointer ra), (5, .slice (some allBA_2) allN allC), (6, .int .i64 i), (7, .pointer (some (Addr.mk b 0 none))), (9, .int .u64 (ishl .u64 (IntKind.wrap .u64 x_5) 3)), (10, .int .i64 to), (12, .int .i64 x_11), (128, .bool true)] (by simp only [b73, Bool.not_true, Bool.not_false]) ?_
                          clear b73
                          refine Q_one (.pointer (some ((Addr.mk b 0 none).add 3))) [(0, .slice (some lBA) lN lC), (3, .pointer ra), (5, .slice (some allBA_2) allN allC), (6, .int .i64 i), (7, .pointer (some (Addr.mk b 0 none))), (9, .int .u64 (ishl .u64 (IntKind.wrap .u64 x_5) 3)), (10, .int .i64 to), (12, .int .i64 x_11), (128, .bool true), (129, .pointer (some ((Addr.mk b 0 none).add 3)))] (some 129) (by kernel_rfl) (fun w => by kernel_rfl) (ps (by kernel_rfl)) ?_
                          obtain ⟨x_15, q74, h⟩ := h
                          refine Q_op (some 130) (loadN 3 (.pointer (some ((Addr.mk b 0 none).add 3)))) (.int .i64 x_15) (fun w => by kernel_rfl) (loadN_run (loadOK_one (fun w => by kernel_rfl) q74)) [(0, .slice (some lBA) lN lC), (3, .pointer ra), (5, .slice (some allBA_2) allN allC), (6, .int .i64 i), (7, .pointer (some (Addr.mk b 0 none))), (9, .int .u64 (ishl .u64 (IntKind.wrap .u64 x_5) 3)), (10, .int .i64 to), (12, .int .i64 x_11), (128, .bool true), (130, .int .i64 x_15)] (ps (by kernel_rfl)) ?_
                          refine Q_one (.bool (decide (x_15 ≥ 0))) [(0, .slice (some lBA) lN lC), (3, .pointer ra), (5, .slice (some allBA_2) allN allC), (6, .int .i64 i), (7, .pointer (some (Addr.mk b 0 none))), (9, .int .u64 (ishl .u64 (IntKind.wrap .u64 x_5) 3)), (10, .int .i64 to), (12, .int .i64 x_11), (128, .bool true), (131, .bool (decide (x_15 ≥ 0)))] (some 131) (by kernel_rfl) (fun w => by kernel_rfl) (ps (by kernel_rfl)) ?_
                          refine Q_one (.bool (decide (x_15 ≥ 0))) [(0, .slice (some lBA) lN lC), (3, .pointer ra), (5, .slice (some allBA_2) allN allC), (6, .int .i64 i), (7, .pointer (some (Addr.mk b 0 none))), (9, .int .u64 (ishl .u64 (IntKind.wrap .u64 x_5) 3)), (10, .int .i64 to), (12, .int .i64 x_11), (132, .bool (decide (x_15 ≥ 0)))] (some 132) (by kernel_rfl) (fun w => by kernel_rfl) (ps (by kernel_rfl)) ?_
                          refine Q_one (.bool (decide (x_15 ≥ 0))) [(0, .slice (some lBA) lN lC), (3, .pointer ra), (5, .slice (some allBA_2) allN allC), (6, .int .i64 i), (7, .pointer (some (Addr.mk b 0 none))), (9, .int .u64 (ishl .u64 (IntKind.wrap .u64 x_5) 3)), (10, .int .i64 to), (12, .int .i64 x_11), (133, .bool (decide (x_15 ≥ 0)))] (some 133) (by kernel_rfl) (fun w => by kernel_rfl) (ps (by kernel_rfl)) ?_
                          by_cases c75 : x_15 ≥ 0
                          · rw [if_pos c75] at h
                            have b76 : (decide (x_15 ≥ 0)) = true := decide_eq_true c75
                            refine Q_env [(0, .slice (some lBA) lN lC), (3, .pointer ra), (5, .slice (some allBA_2) allN allC), (6, .int .i64 i), (7, .pointer (some (Addr.mk b 0 none))), (9, .int .u64 (ishl .u64 (IntKind.wrap .u64 x_5) 3)), (10, .int .i64 to), (12, .int .i64 x_11), (133, .bool true)] (by simp only [b76, Bool.not_true, Bool.not_false]) ?_
                            clear b76
                            refine Q_one (.pointer (some ((Addr.mk b 0 none).add 3))) [(0, .slice (some lBA) lN lC), (3, .pointer ra), (5, .slice (some allBA_2) allN allC), (6, .int .i64 i), (7, .pointer (some (Addr.mk b 0 none))), (9, .int .u64 (ishl .u64 (IntKind.wrap .u64 x_5) 3)), (10, .int .i64 to), (12, .int .i64 x_11), (133, .bool true), (134, .pointer (some ((Addr.mk b 0 none).add 3)))] (some 134) (by kernel_rfl) (fun w => by kernel_rfl) (ps (by kernel_rfl)) ?_
                            obtain ⟨x_16, q77, h⟩ := h
                            refine Q_op (some 135) (loadN 3 (.pointer (some ((Addr.mk b 0 none).add 3)))) (.int .i64 x_16) (fun w => by kernel_rfl) (loadN_run (loadOK_one (fun w => by kernel_rfl) q77)) [(0, .slice (some lBA) lN lC), (3, .pointer ra), (5, .slice (some allBA_2) allN allC), (6, .int .i64 i), (7, .pointer (some (Addr.mk b 0 none))), (9, .int .u64 (ishl .u64 (IntKind.wrap .u64 x_5) 3)), (10, .int .i64 to), (12, .int .i64 x_11), (133, .bool true), (135, .int .i64 x_16)] (ps (by kernel_rfl)) ?_
                            refine Q_one (.slice (some allBA_2) allN allC) [(0, .slice (some lBA) lN lC), (3, .pointer ra), (5, .slice (some allBA_2) allN allC), (6, .int .i64 i), (7, .pointer (some (Addr.mk b 0 none))), (9, .int .u64 (ishl .u64 (IntKind.wrap .u64 x_5) 3)), (10, .int .i64 to), (12, .int .i64 x_11), (133, .bool true), (135, .int .i64 x_16), (136, .slice (some allBA_2) allN allC)] (some 136) (by kernel_rfl) (fun w => by kernel_rfl) (ps (by kernel_rfl)) ?_
                            refine Q_one (.int .i64 to) [(0, .slice (some lBA) lN lC), (3, .pointer ra), (5, .slice (some allBA_2) allN allC), (6, .int .i64 i), (7, .pointer (some (Addr.mk b 0 none))), (9, .int .u64 (ishl .u64 (IntKind.wrap .u64 x_5) 3)), (10, .int .i64 to), (12, .int .i64 x_11), (133, .bool true), (135, .int .i64 x_16), (136, .slice (some allBA_2) allN allC), (137, .int .i64 to)] (some 137) (by kernel_rfl) (fun w => by kernel_rfl) (ps (by kernel_rfl)) ?_
                            refine Q_one (.int .i64 (if to < 0 then 0 else to)) [(0, .slice (some lBA) lN lC), (3, .pointer ra), (5, .slice (some allBA_2) allN allC), (6, .int .i64 i), (7, .pointer (some (Addr.mk b 0 none))), (9, .int .u64 (ishl .u64 (IntKind.wrap .u64 x_5) 3)), (10, .int .i64 to), (12, .int .i64 x_11), (133, .bool true), (135, .int .i64 x_16), (136, .slice (some allBA_2) allN allC), (138, .int .i64 (if to < 0 then 0 else to))] (some 138) (by kernel_rfl) (fun w => by kernel_rfl) (ps (by kernel_rfl)) ?_
                            obtain ⟨q78, h⟩ := h
                            refine Q_op (some 139) (indexAtN 48 (.slice (some allBA_2) allN allC) (.int .i64 (if to < 0 then 0 else to))) (.pointer (some (allBA_2.add (Int.toNat (if to < 0 then 0 else to) * 3)))) (fun w => by kernel_rfl) (fun w _ => indexAt_run (P := Try.prog) (t := 48) (elem := 52) (sz := 3) (a := allBA_2) (len := allN) (cap := allC) (k := .i64) (i := (if to < 0 then 0 else to)) Try.underlying48 (fun w => by kernel_rfl) q78.1 q78.2 w) [(0, .slice (some lBA) lN lC), (3, .pointer ra), (5, .slice (some allBA_2) allN allC), (6, .int .i64 i), (7, .pointer (some (Addr.mk b 0 none))), (9, .int .u64 (ishl .u64 (IntKind.wrap .u64 x_5) 3)), (10, .int .i64 to), (12, .int .i64 x_11), (133, .bool true), (135, .int .i64 x_16), (139, .pointer (some (allBA_2.add (Int.toNat (if to < 0 then 0 else to) * 3))))] (ps (by kernel_rfl)) ?_
                            refine Q_one (.pointer (some ((allBA_2.add (Int.toNat (if to < 0 then 0 else to) * 3)).add 2))) [(0, .slice (some lBA) lN lC), (3, .pointer ra), (5, .slice (some allBA_2) allN allC), (6, .int .i64 i), (7, .pointer (some (Addr.mk b 0 none))), (9, .int .u64 (ishl .u64 (IntKind.wrap .u64 x_5) 3)), (10, .int .i64 to), (12, .int .i64 x_11), (133, .bool true), (135, .int .i64 x_16), (140, .pointer (some ((allBA_2.add (Int.toNat (if to < 0 then 0 else to) * 3)).add 2)))] (some 140) (by kernel_rfl) (fun w => by kernel_rfl) (ps (by kernel_rfl)) ?_
                            obtain ⟨xB_3, xN_3, xC_3, q79, h⟩ := h
                            refine Q_op (some 141) (loadN 39 (.pointer (some ((allBA_2.add (Int.toNat (if to < 0 then 0 else to) * 3)).add 2)))) (.slice xB_3 xN_3 xC_3) (fun w => by kernel_rfl) (loadN_run (loadOK_one (fun w => by kernel_rfl) q79)) [(0, .slice (some lBA) lN lC), (3, .pointer ra), (5, .slice (some allBA_2) allN allC), (6, .int .i64 i), (7, .pointer (some (Addr.mk b 0 none))), (9, .int .u64 (ishl .u64 (IntKind.wrap .u64 x_5) 3)), (10, .int .i64 to), (12, .int .i64 x_11), (133, .bool true), (135, .int .i64 x_16), (141, .slice xB_3 xN_3 xC_3)] (ps (by kernel_rfl)) ?_
                            refine Q_one (.int .i64 (xN_3 : Int)) [(0, .slice (some lBA) lN lC), (3, .pointer ra), (5, .slice (some allBA_2) allN allC), (6, .int .i64 i), (7, .pointer (some (Addr.mk b 0 none))), (9, .int .u64 (ishl .u64 (IntKind.wrap .u64 x_5) 3)), (10, .int .i64 to), (12, .int .i64 x_11), (133, .bool true), (135, .int .i64 x_16), (142, .int .i64 (xN_3 : Int))] (some 142) (by kernel_rfl) (fun w => by kernel_rfl) (ps (by kernel_rfl)) ?_
                            refine Q_one (.bool (decide (x_16 < (xN_3 : Int)))) [(0, .slice (some lBA) lN lC), (3, .pointer ra), (5, .slice (some allBA_2) allN allC), (6, .int .i64 i), (7, .pointer (some (Addr.mk b 0 none))), (9, .int .u64 (ishl .u64 (IntKind.wrap .u64 x_5) 3)), (10, .int .i64 to), (12, .int .i64 x_11), (133, .bool true), (143, .bool (decide (x_16 < (xN_3 : Int))))] (some 143) (by kernel_rfl) (fun w => by kernel_rfl) (ps (by kernel_rfl)) ?_
                            refine Q_one (.bool (decide (x_16 < (xN_3 : Int)))) [(0, .slice (some lBA) lN lC), (3, .pointer ra), (5, .slice (some allBA_2) allN allC), (6, .int .i64 i), (7, .pointer (some (Addr.mk b 0 none))), (9, .int .u64 (ishl .u64 (IntKind.wrap .u64 x_5) 3)), (10, .int .i64 to), (12, .int .i64 x_11), (144, .bool (decide (x_16 < (xN_3 : Int))))] (some 144) (by kernel_rfl) (fun w => by kernel_rfl) (ps (by kernel_rfl)) ?_
                            refine Q_one (.bool (decide (x_16 < (xN_3 : Int)))) [(0, .slice (some lBA) lN lC), (3, .pointer ra), (5, .slice (some allBA_2) allN allC), (6, .int .i64 i), (7, .pointer (some (Addr.mk b 0 none))), (9, .int .u64 (ishl .u64 (IntKind.wrap .u64 x_5) 3)), (10, .int .i64 to), (12, .int .i64 x_11), (13, .bool (decide (x_16 < (xN_3 : Int))))] (some 13) (by kernel_rfl) (fun w => by kernel_rfl) (ps (by kernel_rfl)) ?_
                            refine Q_sub [(0, .slice (some lBA) lN lC), (3, .pointer ra), (5, .slice (some allBA_2) allN allC), (6, .int .i64 i), (7, .pointer (some (Addr.mk b 0 none))), (9, .int .u64 (ishl .u64 (IntKind.wrap .u64 x_5) 3)), (10, .int .i64 to), (12, .int .i64 x_11), (13, .bool (decide (x_16 < (xN_3 : Int))))] (sb (by kernel_rfl)) ?_
                            refine Q_end (by kernel_rfl) ?_
                            refine S_then ?_
                            exact S_meet ((decide (x_16 < (xN_3 : Int))) : Bool) (sb (by kernel_rfl)) h
                          · rw [if_neg c75] at h
                            have b76 : (decide (x_15 ≥ 0)) = false := decide_eq_false c75
                            refine Q_env [(0, .slice (some lBA) lN lC), (3, .pointer ra), (5, .slice (some allBA_2) allN allC), (6, .int .i64 i), (7, .pointer (some (Addr.mk b 0 none))), (9, .int .u64 (ishl .u64 (IntKind.wrap .u64 x_5) 3)), (10, .int .i64 to), (12, .int .i64 x_11), (133, .bool false)] (by simp only [b76, Bool.not_true, Bool.not_false]) ?_
                            clear b76
                            refine Q_one (undef) [(0, .slice (some lBA) lN lC), (3, .pointer ra), (5, .slice (some allBA_2) allN allC), (6, .int .i64 i), (7, .pointer (some (Addr.mk b 0 none))), (9, .int .u64 (ishl .u64 (IntKind.wrap .u64 x_5) 3)), (10, .int .i64 to), (12, .int .i64 x_11), (133, .bool false), (134, undef)] (some 134) (by kernel_rfl) (fun w => by kernel_rfl) (ps (by kernel_rfl)) ?_
                            refine Q_one (undef) [(0, .slice (some lBA) lN lC), (3, .pointer ra), (5, .slice (some allBA_2) allN allC), (6, .int .i64 i), (7, .pointer (some (Addr.mk b 0 none))), (9, .int .u64 (ishl .u64 (IntKind.wrap .u64 x_5) 3)), (10, .int .i64 to), (12, .int .i64 x_11), (133, .bool false), (135, undef)] (some 135) (by kernel_rfl) (fun w => by kernel_rfl) (ps (by kernel_rfl)) ?_
                            refine Q_one (undef) [(0, .slice (some lBA) lN lC), (3, .pointer ra), (5, .slice (some allBA_2) allN allC), (6, .int .i64 i), (7, .pointer (some (Addr.mk b 0 none))), (9, .int .u64 (ishl .u64 (IntKind.wrap .u64 x_5) 3)), (10, .int .i64 to), (12, .int .i64 x_11), (133, .bool false), (135, undef), (136, undef)] (some 136) (by kernel_rfl) (fun w => by kernel_rfl) (ps (by kernel_rfl)) ?_
                            refine Q_one (undef) [(0, .slice (some lBA) lN lC), (3, .pointer ra), (5, .slice (some allBA_2) allN allC), (6, .int .i64 i), (7, .pointer (some (Addr.mk b 0 none))), (9, .int .u64 (ishl .u64 (IntKind.wrap .u64 x_5) 3)), (10, .int .i64 to), (12, .int .i64 x_11), (133, .bool false), (135, undef), (136, undef), (137, undef)] (some 137) (by kernel_rfl) (fun w => by kernel_rfl) (ps (by kernel_rfl)) ?_
                            refine Q_one (undef) [(0, .slice (some lBA) lN lC), (3, .pointer ra), (5, .slice (some allBA_2) allN allC), (6, .int .i64 i), (7, .pointer (some (Addr.mk b 0 none))), (9, .int .u64 (ishl .u64 (IntKind.wrap .u64 x_5) 3)), (10, .int .i64 to), (12, .int .i64 x_11), (133, .bool false), (135, undef), (136, undef), (138, undef)] (some 138) (by kernel_rfl) (fun w => by kernel_rfl) (ps (by kernel_rfl)) ?_
                            refine Q_one (undef) [(0, .slice (some lBA) lN lC), (3, .pointer ra), (5, .slice (some allBA_2) allN allC), (6, .int .i64 i), (7, .pointer (some (Addr.mk b 0 none))), (9, .int .u64 (ishl .u64 (IntKind.wrap .u64 x_5) 3)), (10, .int .i64 to), (12, .int .i64 x_11), (133, .bool false), (135, undef), (139, undef)] (some 139) (by kernel_rfl) (fun w => by kernel_rfl) (ps (by kernel_rfl)) ?_
                            refine Q_one (undef) [(0, .slice (some lBA) lN lC), (3, .pointer ra), (5, .slice (some allBA_2) allN allC), (6, .int .i64 i), (7, .pointer (some (Addr.mk b 0 none))), (9, .int .u64 (ishl .u64 (IntKind.wrap .u64 x_5) 3)), (10, .int .i64 to), (12, .int .i64 x_11), (133, .bool false), (135, undef), (140, undef)] (some 140) (by kernel_rfl) (fun w => by kernel_rfl) (ps (by kernel_rfl)) ?_
                            refine Q_one (undef) [(0, .slice (some lBA) lN lC), (3, .pointer ra), (5, .slice (some allBA_2) allN allC), (6, .int .i64 i), (7, .pointer (some (Addr.mk b 0 none))), (9, .int .u64 (ishl .u64 (IntKind.wrap .u64 x_5) 3)), (10, .int .i64 to), (12, .int .i64 x_11), (133, .bool false), (135, undef), (141, undef)] (some 141) (by kernel_rfl) (fun w => by kernel_rfl) (ps (by kernel_rfl)) ?_
                            refine Q_one (undef) [(0, .slice (some lBA) lN lC), (3, .pointer ra), (5, .slice (some allBA_2) allN allC), (6, .int .i64 i), (7, .pointer (some (Addr.mk b 0 none))), (9, .int .u64 (ishl .u64 (IntKind.wrap .u64 x_5) 3)), (10, .int .i64 to), (12, .int .i64 x_11), (133, .bool false), (135, undef), (142, undef)] (some 142) (by kernel_rfl) (fun w => by kernel_rfl) (ps (by kernel_rfl)) ?_
                            refine Q_one (undef) [(0, .slice (some lBA) lN lC), (3, .pointer ra), (5, .slice (some allBA_2) allN allC), (6, .int .i64 i), (7, .pointer (some (Addr.mk b 0 none))), (9, .int .u64 (ishl .u64 (IntKind.wrap .u64 x_5) 3)), (10, .int .i64 to), (12, .int .i64 x_11), (133, .bool false), (143, undef)] (some 143) (by kernel_rfl) (fun w => by kernel_rfl) (ps (by kernel_rfl)) ?_
                            refine Q_one (.bool false) [(0, .slice (some lBA) lN lC), (3, .pointer ra), (5, .slice (some allBA_2) allN allC), (6, .int .i64 i), (7, .pointer (some (Addr.mk b 0 none))), (9, .int .u64 (ishl .u64 (IntKind.wrap .u64 x_5) 3)), (10, .int .i64 to), (12, .int .i64 x_11), (144, .bool false)] (some 144) (by kernel_rfl) (fun w => by kernel_rfl) (ps (by kernel_rfl)) ?_
                            refine Q_one (.bool false) [(0, .slice (some lBA) lN lC), (3, .pointer ra), (5, .slice (some allBA_2) allN allC), (6, .int .i64 i), (7, .pointer (some (Addr.mk b 0 none))), (9, .int .u64 (ishl .u64 (IntKind.wrap .u64 x_5) 3)), (10, .int .i64 to), (12, .int .i64 x_11), (13, .bool false)] (some 13) (by kernel_rfl) (fun w => by kernel_rfl) (ps (by kernel_rfl)) ?_
                            refine Q_sub [(0, .slice (some lBA) lN lC), (3, .pointer ra), (5, .slice (some allBA_2) allN allC), (6, .int .i64 i), (7, .pointer (some (Addr.mk b 0 none))), (9, .int .u64 (ishl .u64 (IntKind.wrap .u64 x_5) 3)), (10, .int .i64 to), (12, .int .i64 x_11), (13, .bool false)] (sb (by kernel_rfl)) ?_
                            refine Q_end (by kernel_rfl) ?_
                            refine S_then ?_
                            exact S_meet (false : Bool) (sb (by kernel_rfl)) h
                        · rw [if_neg c72] at h
                          have b73 : (decide (to ≥ 0)) = false := decide_eq_false c72
                          refine Q_env [(0, .slice (some lBA) lN lC), (3, .pointer ra), (5, .slice (some allBA_2) allN allC), (6, .int .i64 i), (7, .pointer (some (Addr.mk b 0 none))), (9, .int .u64 (ishl .u64 (IntKind.wrap .u64 x_5) 3)), (10, .int .i64 to), (12, .int .i64 x_11), (128, .bool false)] (by simp only [b73, Bool.not_true, Bool.not_false]) ?_
                          clear b73
                          refine Q_one (undef) [(0, .slice (some lBA) lN lC), (3, .pointer ra), (5, .slice (some allBA_2) allN allC), (6, .int .i64 i), (7, .pointer (some (Addr.mk b 0 none))), (9, .int .u64 (ishl .u64 (IntKind.wrap .u64 x_5) 3)), (10, .int .i64 to), (12, .int .i64 x_11), (128, .bool false), (129, undef)] (some 129) (by kernel_rfl) (fun w => by kernel_rfl) (ps (by kernel_rfl)) ?_
                          refine Q_one (undef) [(0, .slice (some lBA) lN lC), (3, .pointer ra), (5, .slice (some allBA_2) allN allC), (6, .int .i64 i), (7, .pointer (some (Addr.mk b 0 none))), (9, .int .u64 (ishl .u64 (IntKind.wrap .u64 x_5) 3)), (10, .int .i64 to), (12, .int .i64 x_11), (128, .bool false), (130, undef)] (some 130) (by kernel_rfl) (fun w => by kernel_rfl) (ps (by kernel_rfl)) ?_
                          refine Q_one (undef) [(0, .slice (some lBA) lN lC), (3, .pointer ra), (5, .slice (some allBA_2) allN allC), (6, .int .i64 i), (7, .pointer (some (Addr.mk b 0 none))), (9, .int .u64 (ishl .u64 (IntKind.wrap .u64 x_5) 3)), (10, .int .i64 to), (12, .int .i64 x_11), (128, .bool false), (131, undef)] (some 131) (by kernel_rfl) (fun w => by kernel_rfl) (ps (by kernel_rfl)) ?_
                          refine Q_one (.bool false) [(0, .slice (some lBA) lN lC), (3, .pointer ra), (5, .slice (some allBA_2) allN allC), (6, .int .i64 i), (7, .pointer (some (Addr.mk b 0 none))), (9, .int .u64 (ishl .u64 (IntKind.wrap .u64 x_5) 3)), (10, .int .i64 to), (12, .int .i64 x_11), (132, .bool false)] (some 132) (by kernel_rfl) (fun w => by kernel_rfl) (ps (by kernel_rfl)) ?_
                          refine Q_one (.bool false) [(0, .slice (some lBA) lN lC), (3, .pointer ra), (5, .slice (some allBA_2) allN allC), (6, .int .i64 i), (7, .pointer (some (Addr.mk b 0 none))), (9, .int .u64 (ishl .u64 (IntKind.wrap .u64 x_5) 3)), (10, .int .i64 to), (12, .int .i64 x_11), (133, .bool false)] (some 133) (by kernel_rfl) (fun w => by kernel_rfl) (ps (by kernel_rfl)) ?_
                          refine Q_one (undef) [(0, .slice (some lBA) lN lC), (3, .pointer ra), (5, .slice (some allBA_2) allN allC), (6, .int .i64 i), (7, .pointer (some (Addr.mk b 0 none))), (9, .int .u64 (ishl .u64 (IntKind.wrap .u64 x_5) 3)), (10, .int .i64 to), (12, .int .i64 x_11), (133, .bool false), (134, undef)] (some 134) (by kernel_rfl) (fun w => by kernel_rfl) (ps (by kernel_rfl)) ?_
                          refine Q_one (undef) [(0, .slice (some lBA) lN lC), (3, .pointer ra), (5, .slice (some allBA_2) allN allC), (6, .int .i64 i), (7, .pointer (some (Addr.mk b 0 none))), (9, .int .u64 (ishl .u64 (IntKind.wrap .u64 x_5) 3)), (10, .int .i64 to), (12, .int .i64 x_11), (133, .bool false), (135, undef)] (some 135) (by kernel_rfl) (fun w => by kernel_rfl) (ps (by kernel_rfl)) ?_
                          refine Q_one (undef) [(0, .slice (some lBA) lN lC), (3, .pointer ra), (5, .slice (some allBA_2) allN allC), (6, .int .i64 i), (7, .pointer (some (Addr.mk b 0 none))), (9, .int .u64 (ishl .u64 (IntKind.wrap .u64 x_5) 3)), (10, .int .i64 to), (12, .int .i64 x_11), (133, .bool false), (135, undef), (136, undef)] (some 136) (by kernel_rfl) (fun w => by kernel_rfl) (ps (by kernel_rfl)) ?_
                          refine Q_one (undef) [(0, .slice (some lBA) lN lC), (3, .pointer ra), (5, .slice (some allBA_2) allN allC), (6, .int .i64 i), (7, .pointer (some (Addr.mk b 0 none))), (9, .int .u64 (ishl .u64 (IntKind.wrap .u64 x_5) 3)), (10, .int .i64 to), (12, .int .i64 x_11), (133, .bool false), (135, undef), (136, undef), (137, undef)] (some 137) (by kernel_rfl) (fun w => by kernel_rfl) (ps (by kernel_rfl)) ?_
                          refine Q_one (undef) [(0, .slice (some lBA) lN lC), (3, .pointer ra), (5, .slice (some allBA_2) allN allC), (6, .int .i64 i), (7, .pointer (some (Addr.mk b 0 none))), (9, .int .u64 (ishl .u64 (IntKind.wrap .u64 x_5) 3)), (10, .int .i64 to), (12, .int .i64 x_11), (133, .bool false), (135, undef), (136, undef), (138, undef)] (some 138) (by kernel_rfl) (fun w => by kernel_rfl) (ps (by kernel_rfl)) ?_
                          refine Q_one (undef) [(0, .slice (some lBA) lN lC), (3, .pointer ra), (5, .slice (some allBA_2) allN allC), (6, .int .i64 i), (7, .pointer (some (Addr.mk b 0 none))), (9, .int .u64 (ishl .u64 (IntKind.wrap .u64 x_5) 3)), (10, .int .i64 to), (12, .int .i64 x_11), (133, .bool false), (135, undef), (139, undef)] (some 139) (by kernel_rfl) (fun w => by kernel_rfl) (ps (by kernel_rfl)) ?_
                          refine Q_one (undef) [(0, .slice (some lBA) lN lC), (3, .pointer ra), (5, .slice (some allBA_2) allN allC), (6, .int .i64 i), (7, .pointer (some (Addr.mk b 0 none))), (9, .int .u64 (ishl .u64 (IntKind.wrap .u64 x_5) 3)), (10, .int .i64 to), (12, .int .i64 x_11), (133, .bool false), (135, undef), (140, undef)] (some 140) (by kernel_rfl) (fun w => by kernel_rfl) (ps (by kernel_rfl)) ?_
                          refine Q_one (undef) [(0, .slice (some lBA) lN lC), (3, .pointer ra), (5, .slice (some allBA_2) allN allC), (6, .int .i64 i), (7, .pointer (some (Addr.mk b 0 none))), (9, .int .u64 (ishl .u64 (IntKind.wrap .u64 x_5) 3)), (10, .int .i64 to), (12, .int .i64 x_11), (133, .bool false), (135, undef), (141, undef)] (some 141) (by kernel_rfl) (fun w => by kernel_rfl) (ps (by kernel_rfl)) ?_
                          refine Q_one (undef) [(0, .slice (some lBA) lN lC), (3, .pointer ra), (5, .slice (some allBA_2) allN allC), (6, .int .i64 i), (7, .pointer (some (Addr.mk b 0 none))), (9, .int .u64 (ishl .u64 (IntKind.wrap .u64 x_5) 3)), (10, .int .i64 to), (12, .int .i64 x_11), (133, .bool false), (135, undef), (142, undef)] (some 142) (by kernel_rfl) (fun w => by kernel_rfl) (ps (by kernel_rfl)) ?_
                          refine Q_one (undef) [(0, .slice (some lBA) lN lC), (3, .pointer ra), (5, .slice (some allBA_2) allN allC), (6, .int .i64 i), (7, .pointer (some (Addr.mk b 0 none))), (9, .int .u64 (ishl .u64 (IntKind.wrap .u64 x_5) 3)), (10, .int .i64 to), (12, .int .i64 x_11), (133, .bool false), (143, undef)] (some 143) (by kernel_rfl) (fun w => by kernel_rfl) (ps (by kernel_rfl)) ?_
                          refine Q_one (.bool false) [(0, .slice (some lBA) lN lC), (3, .pointer ra), (5, .slice (some allBA_2) allN allC), (6, .int .i64 i), (7, .pointer (some (Addr.mk b 0 none))), (9, .int .u64 (ishl .u64 (IntKind.wrap .u64 x_5) 3)), (10, .int .i64 to), (12, .int .i64 x_11), (144, .bool false)] (some 144) (by kernel_rfl) (fun w => by kernel_rfl) (ps (by kernel_rfl)) ?_
                          refine Q_one (.bool false) [(0, .slice (some lBA) lN lC), (3, .pointer ra), (5, .slice (some allBA_2) allN allC), (6, .int .i64 i), (7, .pointer (some (Addr.mk b 0 none))), (9, .int .u64 (ishl .u64 (IntKind.wrap .u64 x_5) 3)), (10, .int .i64 to), (12, .int .i64 x_11), (13, .bool false)] (some 13) (by kernel_rfl) (fun w => by kernel_rfl) (ps (by kernel_rfl)) ?_
                          refine Q_sub [(0, .slice (some lBA) lN lC), (3, .pointer ra), (5, .slice (some allBA_2) allN allC), (6, .int .i64 i), (7, .pointer (some (Addr.mk b 0 none))), (9, .int .u64 (ishl .u64 (IntKind.wrap .u64 x_5) 3)), (10, .int .i64 to), (12, .int .i64 x_11), (13, .bool false)] (sb (by kernel_rfl)) ?_
                          refine Q_end (by kernel_rfl) ?_
                          refine S_then ?_
                          exact S_meet (false : Bool) (sb (by kernel_rfl)) h
                      · rw [if_neg c70] at h
                        have b71 : (decide (x_14 < 1000)) = false := decide_eq_false c70
                        refine Q_env [(0, .slice (some lBA) lN lC), (3, .pointer ra), (5, .slice (some allBA_2) allN allC), (6, .int .i64 i), (7, .pointer (some (Addr.mk b 0 none))), (9, .int .u64 (ishl .u64 (IntKind.wrap .u64 x_5) 3)), (10, .int .i64 to), (12, .int .i64 x_11), (124, .bool false)] (by simp only [b71, Bool.not_true, Bool.not_false]) ?_
                        clear b71
                        refine Q_one (undef) [(0, .slice (some lBA) lN lC), (3, .pointer ra), (5, .slice (some allBA_2) allN allC), (6, .int .i64 i), (7, .pointer (some (Addr.mk b 0 none))), (9, .int .u64 (ishl .u64 (IntKind.wrap .u64 x_5) 3)), (10, .int .i64 to), (12, .int .i64 x_11), (124, .bool false), (125, undef)] (some 125) (by kernel_rfl) (fun w => by kernel_rfl) (ps (by kernel_rfl)) ?_
                        refine Q_one (undef) [(0, .slice (some lBA) lN lC), (3, .pointer ra), (5, .slice (some allBA_2) allN allC), (6, .int .i64 i), (7, .pointer (some (Addr.mk b 0 none))), (9, .int .u64 (ishl .u64 (IntKind.wrap .u64 x_5) 3)), (10, .int .i64 to), (12, .int .i64 x_11), (124, .bool false), (126, undef)] (some 126) (by kernel_rfl) (fun w => by kernel_rfl) (ps (by kernel_rfl)) ?_
                        refine Q_one (.bool false) [(0, .slice (some lBA) lN lC), (3, .pointer ra), (5, .slice (some allBA_2) allN allC), (6, .int .i64 i), (7, .pointer (some (Addr.mk b 0 none))), (9, .int .u64 (ishl .u64 (IntKind.wrap .u64 x_5) 3)), (10, .int .i64 to), (12, .int .i64 x_11), (127, .bool false)] (some 127) (by kernel_rfl) (fun w => by kernel_rfl) (ps (by kernel_rfl)) ?_
                        refine Q_one (.bool false) [(0, .slice (some lBA) lN lC), (3, .pointer ra), (5, .slice (some allBA_2) allN allC), (6, .int .i64 i), (7, .pointer (some (Addr.mk b 0 none))), (9, .int .u64 (ishl .u64 (IntKind.wrap .u64 x_5) 3)), (10, .int .i64 to), (12, .int .i64 x_11), (128, .bool false)] (some 128) (by kernel_rfl) (fun w => by kernel_rfl) (ps (by kernel_rfl)) ?_
                        refine Q_one (undef) [(0, .slice (some lBA) lN lC), (3, .pointer ra), (5, .slice (some allBA_2) allN allC), (6, .int .i64 i), (7, .pointer (some (Addr.mk b 0 none))), (9, .int .u64 (ishl .u64 (IntKind.wrap .u64 x_5) 3)), (10, .int .i64 to), (12, .int .i64 x_11), (128, .bool false), (129, undef)] (some 129) (by kernel_rfl) (fun w => by kernel_rfl) (ps (by kernel_rfl)) ?_
                        refine Q_one (undef) [(0, .slice (some lBA) lN lC), (3, .pointer ra), (5, .slice (some allBA_2) allN allC), (6, .int .i64 i), (7, .pointer (some (Addr.mk b 0 none))), (9, .int .u64 (ishl .u64 (IntKind.wrap .u64 x_5) 3)), (10, .int .i64 to), (12, .int .i64 x_11), (128, .bool false), (130, undef)] (some 130) (by kernel_rfl) (fun w => by kernel_rfl) (ps (by kernel_rfl)) ?_
                        refine Q_one (undef) [(0, .slice (some lBA) lN lC), (3, .pointer ra), (5, .slice (some allBA_2) allN allC), (6, .int .i64 i), (7, .pointer (some (Addr.mk b 0 none))), (9, .int .u64 (ishl .u64 (IntKind.wrap .u64 x_5) 3)), (10, .int .i64 to), (12, .int .i64 x_11), (128, .bool false), (131, undef)] (some 131) (by kernel_rfl) (fun w => by kernel_rfl) (ps (by kernel_rfl)) ?_
                        refine Q_one (.bool false) [(0, .slice (some lBA) lN lC), (3, .pointer ra), (5, .slice (some allBA_2) allN allC), (6, .int .i64 i), (7, .pointer (some (Addr.mk b 0 none))), (9, .int .u64 (ishl .u64 (IntKind.wrap .u64 x_5) 3)), (10, .int .i64 to), (12, .int .i64 x_11), (132, .bool false)] (some 132) (by kernel_rfl) (fun w => by kernel_rfl) (ps (by kernel_rfl)) ?_
                        refine Q_one (.bool false) [(0, .slice (some lBA) lN lC), (3, .pointer ra), (5, .slice (some allBA_2) allN allC), (6, .int .i64 i), (7, .pointer (some (Addr.mk b 0 none))), (9, .int .u64 (ishl .u64 (IntKind.wrap .u64 x_5) 3)), (10, .int .i64 to), (12, .int .i64 x_11), (133, .bool false)] (some 133) (by kernel_rfl) (fun w => by kernel_rfl) (ps (by kernel_rfl)) ?_
                        refine Q_one (undef) [(0, .slice (some lBA) lN lC), (3, .pointer ra), (5, .slice (some allBA_2) allN allC), (6, .int .i64 i), (7, .pointer (some (Addr.mk b 0 none))), (9, .int .u64 (ishl .u64 (IntKind.wrap .u64 x_5) 3)), (10, .int .i64 to), (12, .int .i64 x_11), (133, .bool false), (134, undef)] (some 134) (by kernel_rfl) (fun w => by kernel_rfl) (ps (by kernel_rfl)) ?_
                        refine Q_one (undef) [(0, .slice (some lBA) lN lC), (3, .pointer ra), (5, .slice (some allBA_2) allN allC), (6, .int .i64 i), (7, .pointer (some (Addr.mk b 0 none))), (9, .int .u64 (ishl .u64 (IntKind.wrap .u64 x_5) 3)), (10, .int .i64 to), (12, .int .i64 x_11), (133, .bool false), (135, undef)] (some 135) (by kernel_rfl) (fun w => by kernel_rfl) (ps (by kernel_rfl)) ?_
                        refine Q_one (undef) [(0, .slice (some lBA) lN lC), (3, .pointer ra), (5, .slice (some allBA_2) allN allC), (6, .int .i64 i), (7, .pointer (some (Addr.mk b 0 none))), (9, .int .u64 (ishl .u64 (IntKind.wrap .u64 x_5) 3)), (10, .int .i64 to), (12, .int .i64 x_11), (133, .bool false), (135, undef), (136, undef)] (some 136) (by kernel_rfl) (fun w => by kernel_rfl) (ps (by kernel_rfl)) ?_
                        refine Q_one (undef) [(0, .slice (some lBA) lN lC), (3, .pointer ra), (5, .slice (some allBA_2) allN allC), (6, .int .i64 i), (7, .pointer (some (Addr.mk b 0 none))), (9, .int .u64 (ishl .u64 (IntKind.wrap .u64 x_5) 3)), (10, .int .i64 to), (12, .int .i64 x_11), (133, .bool false), (135, undef), (136, undef), (137, undef)] (some 137) (by kernel_rfl) (fun w => by kernel_rfl) (ps (by kernel_rfl)) ?_
                        refine Q_one (undef) [(0, .slice (some lBA) lN lC), (3, .pointer ra), (5, .slice (some allBA_2) allN allC), (6, .int .i64 i), (7, .pointer (some (Addr.mk b 0 none))), (9, .int .u64 (ishl .u64 (IntKind.wrap .u64 x_5) 3)), (10, .int .i64 to), (12, .int .i64 x_11), (133, .bool false), (135, undef), (136, undef), (138, undef)] (some 138) (by kernel_rfl) (fun w => by kernel_rfl) (ps (by kernel_rfl)) ?_
                        refine Q_one (undef) [(0, .slice (some lBA) lN lC), (3, .pointer ra), (5, .slice (some allBA_2) allN allC), (6, .int .i64 i), (7, .pointer (some (Addr.mk b 0 none))), (9, .int .u64 (ishl .u64 (IntKind.wrap .u64 x_5) 3)), (10, .int .i64 to), (12, .int .i64 x_11), (133, .bool false), (135, undef), (139, undef)] (some 139) (by kernel_rfl) (fun w => by kernel_rfl) (ps (by kernel_rfl)) ?_
                        refine Q_one (undef) [(0, .slice (some lBA) lN lC), (3, .pointer ra), (5, .slice (some allBA_2) allN allC), (6, .int .i64 i), (7, .pointer (some (Addr.mk b 0 none))), (9, .int .u64 (ishl .u64 (IntKind.wrap .u64 x_5) 3)), (10, .int .i64 to), (12, .int .i64 x_11), (133, .bool false), (135, undef), (140, undef)] (some 140) (by kernel_rfl) (fun w => by kernel_rfl) (ps (by kernel_rfl)) ?_
                        refine Q_one (undef) [(0, .slice (some lBA) lN lC), (3, .pointer ra), (5, .slice (some allBA_2) allN allC), (6, .int .i64 i), (7, .pointer (some (Addr.mk b 0 none))), (9, .int .u64 (ishl .u64 (IntKind.wrap .u64 x_5) 3)), (10, .int .i64 to), (12, .int .i64 x_11), (133, .bool false), (135, undef), (141, undef)] (some 141) (by kernel_rfl) (fun w => by kernel_rfl) (ps (by kernel_rfl)) ?_
                        refine Q_one (undef) [(0, .slice (some lBA) lN lC), (3, .pointer ra), (5, .slice (some allBA_2) allN allC), (6, .int .i64 i), (7, .pointer (some (Addr.mk b 0 none))), (9, .int .u64 (ishl .u64 (IntKind.wrap .u64 x_5) 3)), (10, .int .i64 to), (12, .int .i64 x_11), (133, .bool false), (135, undef), (142, undef)] (some 142) (by kernel_rfl) (fun w => by kernel_rfl) (ps (by kernel_rfl)) ?_
                        refine Q_one (undef) [(0, .slice (some lBA) lN lC), (3, .pointer ra), (5, .slice (some allBA_2) allN allC), (6, .int .i64 i), (7, .pointer (some (Addr.mk b 0 none))), (9, .int .u64 (ishl .u64 (IntKind.wrap .u64 x_5) 3)), (10, .int .i64 to), (12, .int .i64 x_11), (133, .bool false), (143, undef)] (some 143) (by kernel_rfl) (fun w => by kernel_rfl) (ps (by kernel_rfl)) ?_
                        refine Q_one (.bool false) [(0, .slice (some lBA) lN lC), (3, .pointer ra), (5, .slice (some allBA_2) allN allC), (6, .int .i64 i), (7, .pointer (some (Addr.mk b 0 none))), (9, .int .u64 (ishl .u64 (IntKind.wrap .u64 x_5) 3)), (10, .int .i64 to), (12, .int .i64 x_11), (144, .bool false)] (some 144) (by kernel_rfl) (fun w => by kernel_rfl) (ps (by kernel_rfl)) ?_
                        refine Q_one (.bool false) [(0, .slice (some lBA) lN lC), (3, .pointer ra), (5, .slice (some allBA_2) allN allC), (6, .int .i64 i), (7, .pointer (some (Addr.mk b 0 none))), (9, .int .u64 (ishl .u64 (IntKind.wrap .u64 x_5) 3)), (10, .int .i64 to), (12, .int .i64 x_11), (13, .bool false)] (some 13) (by kernel_rfl) (fun w => by kernel_rfl) (ps (by kernel_rfl)) ?_
                        refine Q_sub [(0, .slice (some lBA) lN lC), (3, .pointer ra), (5, .slice (some allBA_2) allN allC), (6, .int .i64 i), (7, .pointer (some (Addr.mk b 0 none))), (9, .int .u64 (ishl .u64 (IntKind.wrap .u64 x_5) 3)), (10, .int .i64 to), (12, .int .i64 x_11), (13, .bool false)] (sb (by kernel_rfl)) ?_
                        refine Q_end (by kernel_rfl) ?_
                        refine S_then ?_
                        exact S_meet (false : Bool) (sb (by kernel_rfl)) h
                    · rw [if_neg c67] at h
                      have b68 : (decide (x_13 ≥ 0)) = false := decide_eq_false c67
                      refine Q_env [(0, .slice (some lBA) lN lC), (3, .pointer ra), (5, .slice (some allBA_2) allN allC), (6, .int .i64 i), (7, .pointer (some (Addr.mk b 0 none))), (9, .int .u64 (ishl .u64 (IntKind.wrap .u64 x_5) 3)), (10, .int .i64 to), (12, .int .i64 x_11), (119, .bool false)] (by simp only [b68, Bool.not_true, Bool.not_false]) ?_
                      clear b68
                      refine Q_one (undef) [(0, .slice (some lBA) lN lC), (3, .pointer ra), (5, .slice (some allBA_2) allN allC), (6, .int .i64 i), (7, .pointer (some (Addr.mk b 0 none))), (9, .int .u64 (ishl .u64 (IntKind.wrap .u64 x_5) 3)), (10, .int .i64 to), (12, .int .i64 x_11), (119, .bool false), (120, undef)] (some 120) (by kernel_rfl) (fun w => by kernel_rfl) (ps (by kernel_rfl)) ?_
                      refine Q_one (undef) [(0, .slice (some lBA) lN lC), (3, .pointer ra), (5, .slice (some allBA_2) allN allC), (6, .int .i64 i), (7, .pointer (some (Addr.mk b 0 none))), (9, .int .u64 (ishl .u64 (IntKind.wrap .u64 x_5) 3)), (10, .int .i64 to), (12, .int .i64 x_11), (119, .bool false), (121, undef)] (some 121) (by kernel_rfl) (fun w => by kernel_rfl) (ps (by kernel_rfl)) ?_
                      refine Q_one (undef) [(0, .slice (some lBA) lN lC), (3, .pointer ra), (5, .slice (some allBA_2) allN allC), (6, .int .i64 i), (7, .pointer (some (Addr.mk b 0 none))), (9, .int .u64 (ishl .u64 (IntKind.wrap .u64 x_5) 3)), (10, .int .i64 to), (12, .int .i64 x_11), (119, .bool false), (122, undef)] (some 122) (by kernel_rfl) (fun w => by kernel_rfl) (ps (by kernel_rfl)) ?_
                      refine Q_one (.bool false) [(0, .slice (some lBA) lN lC), (3, .pointer ra), (5, .slice (some allBA_2) allN allC), (6, .int .i64 i), (7, .pointer (some (Addr.mk b 0 none))), (9, .int .u64 (ishl .u64 (IntKind.wrap .u64 x_5) 3)), (10, .int .i64 to), (12, .int .i64 x_11), (123, .bool false)] (some 123) (by kernel_rfl) (fun w => by kernel_rfl) (ps (by kernel_rfl)) ?_
                      refine Q_one (.bool false) [(0, .slice (some lBA) lN lC), (3, .pointer ra), (5, .slice (some allBA_2) allN allC), (6, .int .i64 i), (7, .pointer (some (Addr.mk b 0 none))), (9, .int .u64 (ishl .u64 (IntKind.wrap .u64 x_5) 3)), (10, .int .i64 to), (12, .int .i64 x_11), (124, .bool false)] (some 124) (by kernel_rfl) (fun w => by kernel_rfl) (ps (by kernel_rfl)) ?_
                      refine Q_one (undef) [(0, .slice (some lBA) lN lC), (3, .pointer ra), (5, .slice (some allBA_2) allN allC), (6, .int .i64 i), (7, .pointer (some (Addr.mk b 0 none))), (9, .int .u64 (ishl .u64 (IntKind.wrap .u64 x_5) 3)), (10, .int .i64 to), (12, .int .i64 x_11), (124, .bool false), (125, undef)] (some 125) (by kernel_rfl) (fun w => by kernel_rfl) (ps (by kernel_rfl)) ?_
                      refine Q_one (undef) [(0, .slice (some lBA) lN lC), (3, .pointer ra), (5, .slice (some allBA_2) allN allC), (6, .int .i64 i), (7, .pointer (some (Addr.mk b 0 none))), (9, .int .u64 (ishl .u64 (IntKind.wrap .u64 x_5) 3)), (10, .int .i64 to), (12, .int .i64 x_11), (124, .bool false), (126, undef)] (some 126) (by kernel_rfl) (fun w => by kernel_rfl) (ps (by kernel_rfl)) ?_
                      refine Q_one (.bool false) [(0, .slice (some lBA) lN lC), (3, .pointer ra), (5, .slice (some allBA_2) allN allC), (6, .int .i64 i), (7, .pointer (some (Addr.mk b 0 none))), (9, .int .u64 (ishl .u64 (IntKind.wrap .u64 x_5) 3)), (10, .int .i64 to), (12, .int .i64 x_11), (127, .bool false)] (some 127) (by kernel_rfl) (fun w => by kernel_rfl) (ps (by kernel_rfl)) ?_
                      refine Q_one (.bool false) [(0, .slice (some lBA) lN lC), (3, .pointer ra), (5, .slice (some allBA_2) allN allC), (6, .int .i64 i), (7, .pointer (some (Addr.mk b 0 none))), (9, .int .u64 (ishl .u64 (IntKind.wrap .u64 x_5) 3)), (10, .int .i64 to), (12, .int .i64 x_11), (128, .bool false)] (some 128) (by kernel_rfl) (fun w => by kernel_rfl) (ps (by kernel_rfl)) ?_
                      refine Q_one (undef) [(0, .slice (some lBA) lN lC), (3, .pointer ra), (5, .slice (some allBA_2) allN allC), (6, .int .i64 i), (7, .pointer (some (Addr.mk b 0 none))), (9, .int .u64 (ishl .u64 (IntKind.wrap .u64 x_5) 3)), (10, .int .i64 to), (12, .int .i64 x_11), (128, .bool false), (129, undef)] (some 129) (by kernel_rfl) (fun w => by kernel_rfl) (ps (by kernel_rfl)) ?_
                      refine Q_one (undef) [(0, .slice (some lBA) lN lC), (3, .pointer ra), (5, .slice (some allBA_2) allN allC), (6, .int .i64 i), (7, .pointer (some (Addr.mk b 0 none))), (9, .int .u64 (ishl .u64 (IntKind.wrap .u64 x_5) 3)), (10, .int .i64 to), (12, .int .i64 x_11), (128, .bool false), (130, undef)] (some 130) (by kernel_rfl) (fun w => by kernel_rfl) (ps (by kernel_rfl)) ?_
                      refine Q_one (undef) [(0, .slice (some lBA) lN lC), (3, .pointer ra), (5, .slice (some allBA_2) allN allC), (6, .int .i64 i), (7, .pointer (some (Addr.mk b 0 none))), (9, .int .u64 (ishl .u64 (IntKind.wrap .u64 x_5) 3)), (10, .int .i64 to), (12, .int .i64 x_11), (128, .bool false), (131, undef)] (some 131) (by kernel_rfl) (fun w => by kernel_rfl) (ps (by kernel_rfl)) ?_
                      refine Q_one (.bool false) [(0, .slice (some lBA) lN lC), (3, .pointer ra), (5, .slice (some allBA_2) allN allC), (6, .int .i64 i), (7, .pointer (some (Addr.mk b 0 none))), (9, .int .u64 (ishl .u64 (IntKind.wrap .u64 x_5) 3)), (10, .int .i64 to), (12, .int .i64 x_11), (132, .bool false)] (some 132) (by kernel_rfl) (fun w => by kernel_rfl) (ps (by kernel_rfl)) ?_
                      refine Q_one (.bool false) [(0, .slice (some lBA) lN lC), (3, .pointer ra), (5, .slice (some allBA_2) allN allC), (6, .int .i64 i), (7, .pointer (some (Addr.mk b 0 none))), (9, .int .u64 (ishl .u64 (IntKind.wrap .u64 x_5) 3)), (10, .int .i64 to), (12, .int .i64 x_11), (133, .bool false)] (some 133) (by kernel_rfl) (fun w => by kernel_rfl) (ps (by kernel_rfl)) ?_
                      refine Q_one (undef) [(0, .slice (some lBA) lN lC), (3, .pointer ra), (5, .slice (some allBA_2) allN allC), (6, .int .i64 i), (7, .pointer (some (Addr.mk b 0 none))), (9, .int .u64 (ishl .u64 (IntKind.wrap .u64 x_5) 3)), (10, .int .i64 to), (12, .int .i64 x_11), (133, .bool false), (134, undef)] (some 134) (by kernel_rfl) (fun w => by kernel_rfl) (ps (by kernel_rfl)) ?_
                      refine Q_one (undef) [(0, .slice (some lBA) lN lC), (3, .pointer ra), (5, .slice (some allBA_2) allN allC), (6, .int .i64 i), (7, .pointer (some (Addr.mk b 0 none))), (9, .int .u64 (ishl .u64 (IntKind.wrap .u64 x_5) 3)), (10, .int .i64 to), (12, .int .i64 x_11), (133, .bool false), (135, undef)] (some 135) (by kernel_rfl) (fun w => by kernel_rfl) (ps (by kernel_rfl)) ?_
                      refine Q_one (undef) [(0, .slice (some lBA) lN lC), (3, .pointer ra), (5, .slice (some allBA_2) allN allC), (6, .int .i64 i), (7, .pointer (some (Addr.mk b 0 none))), (9, .int .u64 (ishl .u64 (IntKind.wrap .u64 x_5) 3)), (10, .int .i64 to), (12, .int .i64 x_11), (133, .bool false), (135, undef), (136, undef)] (some 136) (by kernel_rfl) (fun w => by kernel_rfl) (ps (by kernel_rfl)) ?_
                      refine Q_one (undef) [(0, .slice (some lBA) lN lC), (3, .pointer ra), (5, .slice (some allBA_2) allN allC), (6, .int .i64 i), (7, .pointer (some (Addr.mk b 0 none))), (9, .int .u64 (ishl .u64 (IntKind.wrap .u64 x_5) 3)), (10, .int .i64 to), (12, .int .i64 x_11), (133, .bool false), (135, undef), (136, undef), (137, undef)] (some 137) (by kernel_rfl) (fun w => by kernel_rfl) (ps (by kernel_rfl)) ?_
                      refine Q_one (undef) [(0, .slice (some lBA) lN lC), (3, .pointer ra), (5, .slice (some allBA_2) allN allC), (6, .int .i64 i), (7, .pointer (some (Addr.mk b 0 none))), (9, .int .u64 (ishl .u64 (IntKind.wrap .u64 x_5) 3)), (10, .int .i64 to), (12, .int .i64 x_11), (133, .bool false), (135, undef), (136, undef), (138, undef)] (some 138) (by kernel_rfl) (fun w => by kernel_rfl) (ps (by kernel_rfl)) ?_
                      refine Q_one (undef) [(0, .slice (some lBA) lN lC), (3, .pointer ra), (5, .slice (some allBA_2) allN allC), (6, .int .i64 i), (7, .pointer (some (Addr.mk b 0 none))), (9, .int .u64 (ishl .u64 (IntKind.wrap .u64 x_5) 3)), (10, .int .i64 to), (12, .int .i64 x_11), (133, .bool false), (135, undef), (139, undef)] (some 139) (by kernel_rfl) (fun w => by kernel_rfl) (ps (by kernel_rfl)) ?_
                      refine Q_one (undef) [(0, .slice (some lBA) lN lC), (3, .pointer ra), (5, .slice (some allBA_2) allN allC), (6, .int .i64 i), (7, .pointer (some (Addr.mk b 0 none))), (9, .int .u64 (ishl .u64 (IntKind.wrap .u64 x_5) 3)), (10, .int .i64 to), (12, .int .i64 x_11), (133, .bool false), (135, undef), (140, undef)] (some 140) (by kernel_rfl) (fun w => by kernel_rfl) (ps (by kernel_rfl)) ?_
                      refine Q_one (undef) [(0, .slice (some lBA) lN lC), (3, .pointer ra), (5, .slice (some allBA_2) allN allC), (6, .int .i64 i), (7, .pointer (some (Addr.mk b 0 none))), (9, .int .u64 (ishl .u64 (IntKind.wrap .u64 x_5) 3)), (10, .int .i64 to), (12, .int .i64 x_11), (133, .bool false), (135, undef), (141, undef)] (some 141) (by kernel_rfl) (fun w => by kernel_rfl) (ps (by kernel_rfl)) ?_
                      refine Q_one (undef) [(0, .slice (some lBA) lN lC), (3, .pointer ra), (5, .slice (some allBA_2) allN allC), (6, .int .i64 i), (7, .pointer (some (Addr.mk b 0 none))), (9, .int .u64 (ishl .u64 (IntKind.wrap .u64 x_5) 3)), (10, .int .i64 to), (12, .int .i64 x_11), (133, .bool false), (135, undef), (142, undef)] (some 142) (by kernel_rfl) (fun w => by kernel_rfl) (ps (by kernel_rfl)) ?_
                      refine Q_one (undef) [(0, .slice (some lBA) lN lC), (3, .pointer ra), (5, .slice (some allBA_2) allN allC), (6, .int .i64 i), (7, .pointer (some (Addr.mk b 0 none))), (9, .int .u64 (ishl .u64 (IntKind.wrap .u64 x_5) 3)), (10, .int .i64 to), (12, .int .i64 x_11), (133, .bool false), (143, undef)] (some 143) (by kernel_rfl) (fun w => by kernel_rfl) (ps (by kernel_rfl)) ?_
                      refine Q_one (.bool false) [(0, .slice (some lBA) lN lC), (3, .pointer ra), (5, .slice (some allBA_2) allN allC), (6, .int .i64 i), (7, .pointer (some (Addr.mk b 0 none))), (9, .int .u64 (ishl .u64 (IntKind.wrap .u64 x_5) 3)), (10, .int .i64 to), (12, .int .i64 x_11), (144, .bool false)] (some 144) (by kernel_rfl) (fun w => by kernel_rfl) (ps (by kernel_rfl)) ?_
                      refine Q_one (.bool false) [(0, .slice (some lBA) lN lC), (3, .pointer ra), (5, .slice (some allBA_2) allN allC), (6, .int .i64 i), (7, .pointer (some (Addr.mk b 0 none))), (9, .int .u64 (ishl .u64 (IntKind.wrap .u64 x_5) 3)), (10, .int .i64 to), (12, .int .i64 x_11), (13, .bool false)] (some 13) (by kernel_rfl) (fun w => by kernel_rfl) (ps (by kernel_rfl)) ?_
                      refine Q_sub [(0, .slice (some lBA) lN lC), (3, .pointer ra), (5, .slice (some allBA_2) allN allC), (6, .int .i64 i), (7, .pointer (some (Addr.mk b 0 none))), (9, .int .u64 (ishl .u64 (IntKind.wrap .u64 x_5) 3)), (10, .int .i64 to), (12, .int .i64 x_11), (13, .bool false)] (sb (by kernel_rfl)) ?_
                      refine Q_end (by kernel_rfl) ?_
                      refine S_then ?_
                      exact S_meet (false : Bool) (sb (by kernel_rfl)) h
            · intro hk
              refine N_sub [(0, .slice (some lBA) lN lC), (3, .pointer ra), (5, .slice allB allN allC), (6, .int .i64 i), (7, .pointer (some (Addr.mk b 0 none))), (8, .int .i64 (Int.tmod (iand .i64 x_3 65535) (IntKind.wrap .i64 ((allN : Int) + 1)))), (9, .int .u64 (ishl .u64 (IntKind.wrap .u64 x_5) 3)), (10, .int .i64 to), (11, .int .i64 nv), (79, .bool (decide (nv < x_6)))] (sb (by kernel_rfl)) ?_
              by_cases c34 : nv < x_6
              · have b35 : (decide (nv < x_6)) = true := decide_eq_true c34
                refine N_env [(0, .slice (some lBA) lN lC), (3, .pointer ra), (5, .slice allB allN allC), (6, .int .i64 i), (7, .pointer (some (Addr.mk b 0 none))), (8, .int .i64 (Int.tmod (iand .i64 x_3 65535) (IntKind.wrap .i64 ((allN : Int) + 1)))), (9, .int .u64 (ishl .u64 (IntKind.wrap .u64 x_5) 3)), (10, .int .i64 to), (11, .int .i64 nv), (79, .bool true)] (by simp only [b35, Bool.not_true, Bool.not_false]) ?_
                refine N_run 4 [(0, .slice (some lBA) lN lC), (3, .pointer ra), (5, .slice allB allN allC), (6, .int .i64 i), (7, .pointer (some (Addr.mk b 0 none))), (8, .int .i64 (Int.tmod (iand .i64 x_3 65535) (IntKind.wrap .i64 ((allN : Int) + 1)))), (9, .int .u64 (ishl .u64 (IntKind.wrap .u64 x_5) 3)), (10, .int .i64 to), (11, .int .i64 nv), (83, .bool (decide (nv < 1000)))] (fun w => by kernel_rfl) ?_
                by_cases c36 : nv < 1000
                · have b37 : (decide (nv < 1000)) = true := decide_eq_true c36
                  refine N_env [(0, .slice (some lBA) lN lC), (3, .pointer ra), (5, .slice allB allN allC), (6, .int .i64 i), (7, .pointer (some (Addr.mk b 0 none))), (8, .int .i64 (Int.tmod (iand .i64 x_3 65535) (IntKind.wrap .i64 ((allN : Int) + 1)))), (9, .int .u64 (ishl .u64 (IntKind.wrap .u64 x_5) 3)), (10, .int .i64 to), (11, .int .i64 nv), (83, .bool true)] (by simp only [b37, Bool.not_true, Bool.not_false]) ?_
                  refine N_run 6 [(0, .slice (some lBA) lN lC), (3, .pointer ra), (5, .slice allB allN allC), (6, .int .i64 i), (7, .pointer (some (Addr.mk b 0 none))), (8, .int .i64 (Int.tmod (iand .i64 x_3 65535) (IntKind.wrap .i64 ((allN : Int) + 1)))), (9, .int .u64 (ishl .u64 (IntKind.wrap .u64 x_5) 3)), (10, .int .i64 to), (11, .int .i64 nv), (89, .bool (decide (to < (allN : Int))))] (fun w => by kernel_rfl) ?_
                  by_cases c38 : to < (allN : Int)
                  · have b39 : (decide (to < (allN : Int))) = true := decide_eq_true c38
                    refine N_env [(0, .slice (some lBA) lN lC), (3, .pointer ra), (5, .slice allB allN allC), (6, .int .i64 i), (7, .pointer (some (Addr.mk b 0 none))), (8, .int .i64 (Int.tmod (iand .i64 x_3 65535) (IntKind.wrap .i64 ((allN : Int) + 1)))), (9, .int .u64 (ishl .u64 (IntKind.wrap .u64 x_5) 3)), (10, .int .i64 to), (11, .int .i64 nv), (89, .bool true)] (by simp only [b39, Bool.not_true, Bool.not_false]) ?_
                    refine N_run 3 [(0, .slice (some lBA) lN lC), (3, .pointer ra), (5, .slice allB allN allC), (6, .int .i64 i), (7, .pointer (some (Addr.mk b 0 none))), (8, .int .i64 (Int.tmod (iand .i64 x_3 65535) (IntKind.wrap .i64 ((allN : Int) + 1)))), (9, .int .u64 (ishl .u64 (IntKind.wrap .u64 x_5) 3)), (10, .int .i64 to), (11, .int .i64 nv), (92, .bool (decide (to ≥ 0)))] (fun w => by kernel_rfl) ?_
                    refine N_end (by kernel_rfl) ?_
                    refine S_env [(0, .slice (some lBA) lN lC), (3, .pointer ra), (5, .slice allB allN allC), (6, .int .i64 i), (7, .pointer (some (Addr.mk b 0 none))), (8, .int .i64 (Int.tmod (iand .i64 x_3 65535) (IntKind.wrap .i64 ((allN : Int) + 1)))), (9, .int .u64 (ishl .u64 (IntKind.wrap .u64 x_5) 3)), (10, .int .i64 to), (11, .int .i64 nv), (92, .bool ((((decide (nv < x_6)) && (decide (nv < 1000))) && (decide (to < (allN : Int)))) && (decide (to ≥ 0))))] (by simp only [b35, b37, b39, Bool.true_or, Bool.false_or, Bool.or_true, Bool.or_false, Bool.true_and, Bool.false_and, Bool.and_true, Bool.and_false, Bool.not_true, Bool.not_false, cond_true, cond_false]) ?_
                    exact hk
                  · have b39 : (decide (to < (allN : Int))) = false := decide_eq_false c38
                    refine N_env [(0, .slice (some lBA) lN lC), (3, .pointer ra), (5, .slice allB allN allC), (6, .int .i64 i), (7, .pointer (some (Addr.mk b 0 none))), (8, .int .i64 (Int.tmod (iand .i64 x_3 65535) (IntKind.wrap .i64 ((allN : Int) + 1)))), (9, .int .u64 (ishl .u64 (IntKind.wrap .u64 x_5) 3)), (10, .int .i64 to), (11, .int .i64 nv), (89, .bool false)] (by simp only [b39, Bool.not_true, Bool.not_false]) ?_
                    refine N_run 3 [(0, .slice (some lBA) lN lC), (3, .pointer ra), (5, .slice allB allN allC), (6, .int .i64 i), (7, .pointer (some (Addr.mk b 0 none))), (8, .int .i64 (Int.tmod (iand .i64 x_3 65535) (IntKind.wrap .i64 ((allN : Int) + 1)))), (9, .int .u64 (ishl .u64 (IntKind.wrap .u64 x_5) 3)), (10, .int .i64 to), (11, .int .i64 nv), (92, .bool false)] (fun w => by kernel_rfl) ?_
                    refine N_end (by kernel_rfl) ?_
                    refine S_env [(0, .slice (some lBA) lN lC), (3, .pointer ra), (5, .slice allB allN allC), (6, .int .i64 i), (7, .pointer (some (Addr.mk b 0 none))), (8, .int .i64 (Int.tmod (iand .i64 x_3 65535) (IntKind.wrap .i64 ((allN : Int) + 1)))), (9, .int .u64 (ishl .u64 (IntKind.wrap .u64 x_5) 3)), (10, .int .i64 to), (11, .int .i64 nv), (92, .bool ((((decide (nv < x_6)) && (decide (nv < 1000))) && (decide (to < (allN : Int)))) && (decide (to ≥ 0))))] (by simp only [b35, b37, b39, Bool.true_or, Bool.false_or, Bool.or_true, Bool.or_false, Bool.true_and, Bool.false_and, Bool.and_true, Bool.and_false, Bool.not_true, Bool.not_false, cond_true, cond_false]) ?_
                    exact hk
                · have b37 : (decide (nv < 1000)) = false := decide_eq_false c36
                  refine N_env [(0, .slice (some lBA) lN lC), (3, .pointer ra), (5, .slice allB allN allC), (6, .int .i64 i), (7, .pointer (some (Addr.mk b 0 none))), (8, .int .i64 (Int.tmod (iand .i64 x_3 65535) (IntKind.wrap .i64 ((allN : Int) + 1)))), (9, .int .u64 (ishl .u64 (IntKind.wrap .u64 x_5) 3)), (10, .int .i64 to), (11, .int .i64 nv), (83, .bool false)] (by simp only [b37, Bool.not_true, Bool.not_false]) ?_
                  refine N_run 9 [(0, .slice (some lBA) lN lC), (3, .pointer ra), (5, .slice allB allN allC), (6, .int .i64 i), (7, .pointer (some (Addr.mk b 0 none))), (8, .int .i64 (Int.tmod (iand .i64 x_3 65535) (IntKind.wrap .i64 ((allN : Int) + 1)))), (9, .int .u64 (ishl .u64 (IntKind.wrap .u64 x_5) 3)), (10, .int .i64 to), (11, .int .i64 nv), (92, .bool false)] (fun w => by kernel_rfl) ?_
                  refine N_end (by kernel_rfl) ?_
                  refine S_env [(0, .slice (some lBA) lN lC), (3, .pointer ra), (5, .slice allB allN allC), (6, .int .i64 i), (7, .pointer (some (Addr.mk b 0 none))), (8, .int .i64 (Int.tmod (iand .i64 x_3 65535) (IntKind.wrap .i64 ((allN : Int) + 1)))), (9, .int .u64 (ishl .u64 (IntKind.wrap .u64 x_5) 3)), (10, .int .i64 to), (11, .int .i64 nv), (92, .bool ((((decide (nv < x_6)) && (decide (nv < 1000))) && (decide (to < (allN : Int)))) && (decide (to ≥ 0))))] (by simp only [b35, b37, Bool.true_or, Bool.false_or, Bool.or_true, Bool.or_false, Bool.true_and, Bool.false_and, Bool.and_true, Bool.and_false, Bool.not_true, Bool.not_false, cond_true, cond_false]) ?_
                  exact hk
              · have b35 : (decide (nv < x_6)) = false := decide_eq_false c34
                refine N_env [(0, .slice (some lBA) lN lC), (3, .pointer ra), (5, .slice allB allN allC), (6, .int .i64 i), (7, .pointer (some (Addr.mk b 0 none))), (8, .int .i64 (Int.tmod (iand .i64 x_3 65535) (IntKind.wrap .i64 ((allN : Int) + 1)))), (9, .int .u64 (ishl .u64 (IntKind.wrap .u64 x_5) 3)), (10, .int .i64 to), (11, .int .i64 nv), (79, .bool false)] (by simp only [b35, Bool.not_true, Bool.not_false]) ?_
                refine N_run 13 [(0, .slice (some lBA) lN lC), (3, .pointer ra), (5, .slice allB allN allC), (6, .int .i64 i), (7, .pointer (some (Addr.mk b 0 none))), (8, .int .i64 (Int.tmod (iand .i64 x_3 65535) (IntKind.wrap .i64 ((allN : Int) + 1)))), (9, .int .u64 (ishl .u64 (IntKind.wrap .u64 x_5) 3)), (10, .int .i64 to), (11, .int .i64 nv), (92, .bool false)] (fun w => by kernel_rfl) ?_
                refine N_end (by kernel_rfl) ?_
                refine S_env [(0, .slice (some lBA) lN lC), (3, .pointer ra), (5, .slice allB allN allC), (6, .int .i64 i), (7, .pointer (some (Addr.mk b 0 none))), (8, .int .i64 (Int.tmod (iand .i64 x_3 65535) (IntKind.wrap .i64 ((allN : Int) + 1)))), (9, .int .u64 (ishl .u64 (IntKind.wrap .u64 x_5) 3)), (10, .int .i64 to), (11, .int .i64 nv), (92, .bool ((((decide (nv < x_6)) && (decide (nv < 1000))) && (decide (to < (allN : Int)))) && (decide (to ≥ 0))))] (by simp only [b35, Bool.true_or, Bool.false_or, Bool.or_true, Bool.or_false, Bool.true_and, Bool.false_and, Bool.and_true, Bool.and_false, Bool.not_true, Bool.not_false, cond_true, cond_false]) ?_
                exact hk
          · rw [if_neg c27] at h
            have b28 : (decide (x_4 > 0)) = false := decide_eq_false c27
            refine S_env [(0, .slice (some lBA) lN lC), (3, .pointer ra), (5, .slice allB allN allC), (6, .int .i64 i), (7, .pointer (some (Addr.mk b 0 none))), (8, .int .i64 (Int.tmod (iand .i64 x_3 65535) (IntKind.wrap .i64 ((allN : Int) + 1)))), (69, .bool false)] (by simp only [b28, Bool.not_true, Bool.not_false]) ?_
            clear b28
            refine S_condF (.tmp 69) morainelaw20_FrameLexical.k46 morainelaw20_FrameLexical.k47 (by kernel_rfl) (by kernel_rfl) ?_
            refine S_skip (by kernel_rfl) ?_
            refine S_then ?_
            refine S_seq morainelaw20_FrameLexical.k91 morainelaw20_FrameLexical.k92 (by kernel_rfl) ?_
            refine S_region 26 (Code.ops morainelaw20_FrameLexical.k91) (by kernel_rfl) ?_
            refine N_run 2 [(0, .slice (some lBA) lN lC), (3, .pointer ra), (5, .slice allB allN allC), (6, .int .i64 i), (7, .pointer (some (Addr.mk b 0 none))), (8, .int .i64 (Int.tmod (iand .i64 x_3 65535) (IntKind.wrap .i64 ((allN : Int) + 1)))), (160, .agg #[.int .u64 0, .int .i64 (Int.tmod (iand .i64 x_3 65535) (IntKind.wrap .i64 ((allN : Int) + 1))), .slice none 0 0])] (fun w => by kernel_rfl) ?_
            refine N_new (some 14) (fun b => .pointer (some (Addr.mk b 0 none))) (.cells #[.int .u64 0, .int .i64 0, .slice none 0 0] 52) (fun w => by kernel_rfl) ?_
            intro b_2 H13 e80 e81
            replace h := h b_2 H13 e80 e81
            refine ⟨[(0, .slice (some lBA) lN lC), (3, .pointer ra), (5, .slice allB allN allC), (6, .int .i64 i), (7, .pointer (some (Addr.mk b 0 none))), (8, .int .i64 (Int.tmod (iand .i64 x_3 65535) (IntKind.wrap .i64 ((allN : Int) + 1)))), (14, .pointer (some (Addr.mk b_2 0 none))), (160, .agg #[.int .u64 0, .int .i64 (Int.tmod (iand .i64 x_3 65535) (IntKind.wrap .i64 ((allN : Int) + 1))), .slice none 0 0])], ps (by kernel_rfl), ?_⟩
            obtain ⟨q83, h⟩ := h
            refine N_skipop none (storeN 52 (.pointer (some (Addr.mk b_2 0 none))) (.agg #[.int .u64 0, .int .i64 (Int.tmod (iand .i64 x_3 65535) (IntKind.wrap .i64 ((allN : Int) + 1))), .slice none 0 0])) (fun Hz => Hz = hputs H13 (Addr.mk b_2 0 none) [.int .u64 0, .int .i64 (Int.tmod (iand .i64 x_3 65535) (IntKind.wrap .i64 ((allN : Int) + 1))), .slice none 0 0] 0) (fun w => by kernel_rfl) (ss_store [.int .u64 0, .int .i64 (Int.tmod (iand .i64 x_3 65535) (IntKind.wrap .i64 ((allN : Int) + 1))), .slice none 0 0] 3 (by kernel_rfl) (by kernel_rfl) (fun w => by kernel_rfl) (by kernel_rfl) q83) ?_
            intro H14 e82
            replace h := h H14 e82
            refine ⟨[(0, .slice (some lBA) lN lC), (3, .pointer ra), (5, .slice allB allN allC), (6, .int .i64 i), (7, .pointer (some (Addr.mk b 0 none))), (8, .int .i64 (Int.tmod (iand .i64 x_3 65535) (IntKind.wrap .i64 ((allN : Int) + 1)))), (14, .pointer (some (Addr.mk b_2 0 none)))], ps (by kernel_rfl), ?_⟩
            refine N_end (by kernel_rfl) ?_
            refine S_then ?_
            refine S_seq morainelaw20_FrameLexical.k93 morainelaw20_FrameLexical.k94 (by kernel_rfl) ?_
            refine S_region 27 (Code.ops morainelaw20_FrameLexical.k93) (by kernel_rfl) ?_
            refine N_run 1 [(0, .slice (some lBA) lN lC), (3, .pointer ra), (5, .slice allB allN allC), (6, .int .i64 i), (7, .pointer (some (Addr.mk b 0 none))), (8, .int .i64 (Int.tmod (iand .i64 x_3 65535) (IntKind.wrap .i64 ((allN : Int) + 1)))), (14, .pointer (some (Addr.mk b_2 0 none))), (15, .int .u64 20)] (fun w => by kernel_rfl) ?_
            refine N_end (by kernel_rfl) ?_
            refine S_then ?_
            refine S_seq morainelaw20_FrameLexical.k95 morainelaw20_FrameLexical.k96 (by kernel_rfl) ?_
            refine S_seq morainelaw20_FrameLexical.k97 morainelaw20_FrameLexical.k98 (by kernel_rfl) ?_
            refine S_region 28 (Code.ops morainelaw20_FrameLexical.k97) (by kernel_rfl) ?_
            refine N_run 4 [(0, .slice (some lBA) lN lC), (3, .pointer ra), (5, .slice allB allN allC), (6, .int .i64 i), (7, .pointer (some (Addr.mk b 0 none))), (8, .int .i64 (Int.tmod (iand .i64 x_3 65535) (IntKind.wrap .i64 ((allN : Int) + 1)))), (14, .pointer (some (Addr.mk b_2 0 none))), (15, .int .u64 20), (164, .bool ((Int.tmod (iand .i64 x_3 65535) (IntKind.wrap .i64 ((allN : Int) + 1))) == (allN : Int)))] (fun w => by kernel_rfl) ?_
            refine N_end (by kernel_rfl) ?_
            refine S_then ?_
            obtain ⟨J_4, h, j85⟩ := h
            refine S_join (σ := Int) (fun s_ => [(0, .slice (some lBA) lN lC), (3, .pointer ra), (5, .slice allB allN allC), (6, .int .i64 i), (7, .pointer (some (Addr.mk b 0 none))), (14, .pointer (some (Addr.mk b_2 0 none))), (15, .int .u64 s_)]) (fun s_ H => J_4 s_ H) ?_ ?_
            · rintro upv H15 j86
              replace h := j85 upv H15 j86
              refine S_sub [(0, .slice (some lBA) lN lC), (3, .pointer ra), (5, .slice allB allN allC), (6, .int .i64 i), (7, .pointer (some (Addr.mk b 0 none))), (14, .pointer (some (Addr.mk b_2 0 none))), (15, .int .u64 upv)] (sb (by kernel_rfl)) ?_
              refine S_then ?_
              refine S_seq morainelaw20_FrameLexical.k101 morainelaw20_FrameLexical.k102 (by kernel_rfl) ?_
              refine S_seq morainelaw20_FrameLexical.k103 morainelaw20_FrameLexical.k104 (by kernel_rfl) ?_
              refine S_region 31 (Code.ops morainelaw20_FrameLexical.k103) (by kernel_rfl) ?_
              refine N_run 1 [(0, .slice (some lBA) lN lC), (3, .pointer ra), (5, .slice allB allN allC), (6, .int .i64 i), (7, .pointer (some (Addr.mk b 0 none))), (14, .pointer (some (Addr.mk b_2 0 none))), (15, .int .u64 upv), (16, .int .i64 0)] (fun w => by kernel_rfl) ?_
              refine N_end (by kernel_rfl) ?_
              refine S_then ?_
              refine S_block 4 morainelaw20_FrameLexical.k105 (by kernel_rfl) ?_
              obtain ⟨I107, m107, i87, i88⟩ := h
              refine S_loop (x := morainelaw20_FrameLexical.k106) (σ := Int) (fun s_ => [(0, .slice (some lBA) lN lC), (3, .pointer ra), (5, .slice allB allN allC), (6, .int .i64 i), (7, .pointer (some (Addr.mk b 0 none))), (14, .pointer (some (Addr.mk b_2 0 none))), (15, .int .u64 upv), (16, .int .i64 s_)]) (fun s_ H => I107 s_ H) (fun s_ H => m107 s_ H) (0 : Int) (by kernel_rfl) i87 (sb (by kernel_rfl)) ?_
              rintro nv_2 H16 i89
              have h := i88 nv_2 H16 i89
              refine S_sub [(0, .slice (some lBA) lN lC), (3, .pointer ra), (5, .slice allB allN allC), (6, .int .i64 i), (7, .pointer (some (Addr.mk b 0 none))), (14, .pointer (some (Addr.mk b_2 0 none))), (15, .int .u64 upv), (16, .int .i64 nv_2)] (sb (by kernel_rfl)) ?_
              refine S_seq morainelaw20_FrameLexical.k107 morainelaw20_FrameLexical.k108 (by kernel_rfl) ?_
              refine S_seq morainelaw20_FrameLexical.k109 morainelaw20_FrameLexical.k110 (by kernel_rfl) ?_
              refine S_region 32 (Code.ops morainelaw20_FrameLexical.k109) (by kernel_rfl) ?_
              refine N_run 2 [(0, .slice (some lBA) lN lC), (3, .pointer ra), (5, .slice allB allN allC), (6, .int .i64 i), (7, .pointer (some (Addr.mk b 0 none))), (14, .pointer (some (Addr.mk b_2 0 none))), (15, .int .u64 upv), (16, .int .i64 nv_2), (171, .int .i64 nv_2), (172, .pointer (some ((Addr.mk b 0 none).add 4)))] (fun w => by kernel_rfl) ?_
              obtain ⟨xB_4, xN_4, xC_4, q90, h⟩ := h
              refine N_val (some 173) (loadN 40 (.pointer (some ((Addr.mk b 0 none).add 4)))) (.slice xB_4 xN_4 xC_4) (fun w => by kernel_rfl) (loadN_run (loadOK_one (fun w => by kernel_rfl) q90)) [(0, .slice (some lBA) lN lC), (3, .pointer ra), (5, .slice allB allN allC), (6, .int .i64 i), (7, .pointer (some (Addr.mk b 0 none))), (14, .pointer (some (Addr.mk b_2 0 none))), (15, .int .u64 upv), (16, .int .i64 nv_2), (171, .int .i64 nv_2), (173, .slice xB_4 xN_4 xC_4)] (ps (by kernel_rfl)) ?_
              refine N_run 2 [(0, .slice (some lBA) lN lC), (3, .pointer ra), (5, .slice allB allN allC), (6, .int .i64 i), (7, .pointer (some (Addr.mk b 0 none))), (14, .pointer (some (Addr.mk b_2 0 none))), (15, .int .u64 upv), (16, .int .i64 nv_2), (175, .bool (decide (nv_2 < (xN_4 : Int))))] (fun w => by kernel_rfl) ?_
              refine N_end (by kernel_rfl) ?_
              refine S_then ?_
              by_cases c91 : nv_2 < (xN_4 : Int)
              · rw [if_pos c91] at h
                have b92 : (decide (nv_2 < (xN_4 : Int))) = true := decide_eq_true c91
                refine S_env [(0, .slice (some lBA) lN lC), (3, .pointer ra), (5, .slice allB allN allC), (6, .int .i64 i), (7, .pointer (some (Addr.mk b 0 none))), (14, .pointer (some (Addr.mk b_2 0 none))), (15, .int .u64 upv), (16, .int .i64 nv_2), (175, .bool true)] (by simp only [b92, Bool.not_true, Bool.not_false]) ?_
                clear b92
                refine S_condT (.tmp 175) morainelaw20_FrameLexical.k111 morainelaw20_FrameLexical.k112 (by kernel_rfl) (by kernel_rfl) ?_
                refine S_skip (by kernel_rfl) ?_
                refine S_then ?_
                refine S_seq morainelaw20_FrameLexical.k113 morainelaw20_FrameLexical.k114 (by kernel_rfl) ?_
                refine S_block 5 morainelaw20_FrameLexical.k115 (by kernel_rfl) ?_
                obtain ⟨xB_5, xN_5, xC_5, q93, h⟩ := h
                obtain ⟨xB_6, xN_6, xC_6, q94, h⟩ := h
                obtain ⟨xB6A, rfl, h⟩ := h
                obtain ⟨q95, h⟩ := h
                obtain ⟨x_17, q96, h⟩ := h
                refine S_regionG 34 (Code.ops morainelaw20_FrameLexical.k115) [(10, ((Addr.mk b_2 0 none).add 2), [.slice xB_5 xN_5 xC_5]), (9, ((Addr.mk b 0 none).add 4), [.slice (some xB6A) xN_6 xC_6]), (9, (xB6A.add (Int.toNat nv_2 * 1)), [.int .u32 x_17])] 13 #[false, false, false, false, false, false, false, false, false, false, false, false, false] (by kernel_rfl) (by kernel_rfl) (by kernel_rfl) (by kernel_rfl) (by kernel_rfl) (show FactsAt _ _ _ from ⟨⟨q93, trivial⟩, ⟨q94, trivial⟩, ⟨q96, trivial⟩, trivial⟩) ?_
                refine G_take 0 (some 178) (.pointer (some ((Addr.mk b_2 0 none).add 2))) #[true, false, false, false, false, false, false, false, false, false, false, false, false] [(0, .slice (some lBA) lN lC), (3, .pointer ra), (5, .slice allB allN allC), (6, .int .i64 i), (7, .pointer (some (Addr.mk b 0 none))), (14, .pointer (some (Addr.mk b_2 0 none))), (15, .int .u64 upv), (16, .int .i64 nv_2), (178, .pointer (some ((Addr.mk b_2 0 none).add 2)))] ((pure (.value (.pointer (some ((Addr.mk b_2 0 none).add 2)))) : Sem Next)) (fun w => by kernel_rfl) (fun _ _ _ _ _ => rfl) (by kernel_rfl) (by kernel_rfl) (by kernel_rfl) (by kernel_rfl) (by kernel_rfl) (ps (by kernel_rfl)) ?_
                refine G_take 1 (some 179) (.slice xB_5 xN_5 xC_5) #[true, true, false, false, false, false, false, false, false, false, false, false, false] [(0, .slice (some lBA) lN lC), (3, .pointer ra), (5, .slice allB allN allC), (6, .int .i64 i), (7, .pointer (some (Addr.mk b 0 none))), (14, .pointer (some (Addr.mk b_2 0 none))), (15, .int .u64 upv), (16, .int .i64 nv_2), (179, .slice xB_5 xN_5 xC_5)] (loadN 39 (.pointer (some ((Addr.mk b_2 0 none).add 2)))) (fun w => by kernel_rfl) (held_one 10 (fun w => by kernel_rfl) (List.Mem.head _) (.inl (by kernel_rfl))) (by kernel_rfl) (by kernel_rfl) (by kernel_rfl) (by kernel_rfl) (by kernel_rfl) (ps (by kernel_rfl)) ?_
                refine G_take 2 (some 180) (.pointer (some ((Addr.mk b 0 none).add 4))) #[true, true, true, false, false, false, false, false, false, false, false, false, false] [(0, .slice (some lBA) lN lC), (3, .pointer ra), (5, .slice allB allN allC), (6, .int .i64 i), (7, .pointer (some (Addr.mk b 0 none))), (14, .pointer (some (Addr.mk b_2 0 none))), (15, .int .u64 upv), (16, .int .i64 nv_2), (179, .slice xB_5 xN_5 xC_5), (180, .pointer (some ((Addr.mk b 0 none).add 4)))] ((pure (.value (.pointer (some ((Addr.mk b 0 none).add 4)))) : Sem Next)) (fun w => by kernel_rfl) (fun _ _ _ _ _ => rfl) (by kernel_rfl) (by kernel_rfl) (by kernel_rfl) (by kernel_rfl) (by kernel_rfl) (ps (by kernel_rfl)) ?_
                refine G_take 3 (some 181) (.slice (some xB6A) xN_6 xC_6) #[true, true, true, true, false, false, false, false, false, false, false, false, false] [(0, .slice (some lBA) lN lC), (3, .pointer ra), (5, .slice allB allN allC), (6, .int .i64 i), (7, .pointer (some (Addr.mk b 0 none))), (14, .pointer (some (Addr.mk b_2 0 none))), (15, .int .u64 upv), (16, .int .i64 nv_2), (179, .slice xB_5 xN_5 xC_5), (181, .slice (some xB6A) xN_6 xC_6)] (loadN 40 (.pointer (some ((Addr.mk b 0 none).add 4)))) (fun w => by kernel_rfl) (held_one 9 (fun w => by kernel_rfl) (List.Mem.tail _ (List.Mem.head _)) (.inl (by kernel_rfl))) (by kernel_rfl) (by kernel_rfl) (by kernel_rfl) (by kernel_rfl) (by kernel_rfl) (ps (by kernel_rfl)) ?_
                refine G_take 4 (some 182) (.int .i64 nv_2) #[true, true, true, true, true, false, false, false, false, false, false, false, false] [(0, .slice (some lBA) lN lC), (3, .pointer ra), (5, .slice allB allN allC), (6, .int .i64 i), (7, .pointer (some (Addr.mk b 0 none))), (14, .pointer (some (Addr.mk b_2 0 none))), (15, .int .u64 upv), (16, .int .i64 nv_2), (179, .slice xB_5 xN_5 xC_5), (181, .slice (some xB6A) xN_6 xC_6), (182, .int .i64 nv_2)] ((pure (.value (.int .i64 nv_2)) : Sem Next)) (fun w => by kernel_rfl) (fun _ _ _ _ _ => rfl) (by kernel_rfl) (by kernel_rfl) (by kernel_rfl) (by kernel_rfl) (by kernel_rfl) (ps (by kernel_rfl)) ?_
                refine G_take 5 (some 183) (.pointer (some (xB6A.add (Int.toNat nv_2 * 1)))) #[true, true, true, true, true, true, false, false, false, false, false, false, false] [(0, .slice (some lBA) lN lC), (3, .pointer ra), (5, .slice allB allN allC), (6, .int .i64 i), (7, .pointer (some (Addr.mk b 0 none))), (14, .pointer (some (Addr.mk b_2 0 none))), (15, .int .u64 upv), (16, .int .i64 nv_2), (179, .slice xB_5 xN_5 xC_5), (183, .pointer (some (xB6A.add (Int.toNat nv_2 * 1))))] (indexAtN 40 (.slice (some xB6A) xN_6 xC_6) (.int .i64 nv_2)) (fun w => by kernel_rfl) (fun _ w _ _ _ => indexAt_run (P := Try.prog) (t := 40) (elem := 41) (sz := 1) (a := xB6A) (len := xN_6) (cap := xC_6) (k := .i64) (i := nv_2) Try.underlying40 (fun w => by kernel_rfl) q95.1 q95.2 w) (by kernel_rfl) (by kernel_rfl) (by kernel_rfl) (by kernel_rfl) (by kernel_rfl) (ps (by kernel_rfl)) ?_
                refine G_take 6 (some 184) (.int .u32 x_17) #[true, true, true, true, true, true, true, false, false, false, false, false, false] [(0, .slice (some lBA) lN lC), (3, .pointer ra), (5, .slice allB allN allC), (6, .int .i64 i), (7, .pointer (some (Addr.mk b 0 none))), (14, .pointer (some (Addr.mk b_2 0 none))), (15, .int .u64 upv), (16, .int .i64 nv_2), (179, .slice xB_5 xN_5 xC_5), (184, .int .u32 x_17)] (loadN 41 (.pointer (some (xB6A.add (Int.toNat nv_2 * 1))))) (fun w => by kernel_rfl) (held_one 9 (fun w => by kernel_rfl) (List.Mem.tail _ (List.Mem.tail _ (List.Mem.head _))) (.inl (by kernel_rfl))) (by kernel_rfl) (by kernel_rfl) (by kernel_rfl) (by kernel_rfl) (by kernel_rfl) (ps (by kernel_rfl)) ?_
                refine G_take 7 (some 185) (.int .u64 (IntKind.wrap .u64 x_17)) #[true, true, true, true, true, true, true, true, false, false, false, false, false] [(0, .slice (some lBA) lN lC), (3, .pointer ra), (5, .slice allB allN allC), (6, .int .i64 i), (7, .pointer (some (Addr.mk b 0 none))), (14, .pointer (some (Addr.mk b_2 0 none))), (15, .int .u64 upv), (16, .int .i64 nv_2), (179, .slice xB_5 xN_5 xC_5), (185, .int .u64 (IntKind.wrap .u64 x_17))] ((pure (.value (.int .u64 (IntKind.wrap .u64 x_17))) : Sem Next)) (fun w => by kernel_rfl) (fun _ _ _ _ _ => rfl) (by kernel_rfl) (by kernel_rfl) (by kernel_rfl) (by kernel_rfl) (by kernel_rfl) (ps (by kernel_rfl)) ?_
                refine G_take 8 (some 186) (.int .u64 (ishl .u64 (IntKind.wrap .u64 x_17) 3)) #[true, true, true, true, true, true, true, true, true, false, false, false, false] [(0, .slice (some lBA) lN lC), (3, .pointer ra), (5, .slice allB allN allC), (6, .int .i64 i), (7, .pointer (some (Addr.mk b 0 none))), (14, .pointer (some (Addr.mk b_2 0 none))), (15, .int .u64 upv), (16, .int .i64 nv_2), (179, .slice xB_5 xN_5 xC_5), (186, .int .u64 (ishl .u64 (IntKind.wrap .u64 x_17) 3))] ((pure (.value (.int .u64 (ishl .u64 (IntKind.wrap .u64 x_17) 3))) : Sem Next)) (fun w => by kernel_rfl) (fun _ _ _ _ _ => rfl) (by kernel_rfl) (by kernel_rfl) (by kernel_rfl) (by kernel_rfl) (by kernel_rfl) (ps (by kernel_rfl)) ?_
                refine G_new 9 (some 187) #[true, true, true, true, true, true, true, true, true, true, false, false, false] (fun b => .slice (some (Addr.mk b 0 none)) 1 1) (.cells #[.int .u64 (ishl .u64 (IntKind.wrap .u64 x_17) 3)] 29) (by kernel_rfl) (fun w => by kernel_rfl) (by kernel_rfl) ?_
                intro b_3 H17 e98 e99
                replace h := h b_3 H17 e98 e99
                obtain ⟨f97, h⟩ := h
                refine ⟨[(0, .slice (some lBA) lN lC), (3, .pointer ra), (5, .slice allB allN allC), (6, .int .i64 i), (7, .pointer (some (Addr.mk b 0 none))), (14, .pointer (some (Addr.mk b_2 0 none))), (15, .int .u64 upv), (16, .int .i64 nv_2), (179, .slice xB_5 xN_5 xC_5), (187, .slice (some (Addr.mk b_3 0 none)) 1 1)], ps (by kernel_rfl), (show FactsAt _ _ _ from ⟨f97, trivial, trivial, trivial⟩), ?_⟩
                refine G_only 10 (some 188) #[true, true, true, true, true, true, true, true, true, true, true, false, false] (appendN #[39, 39] 39 #[.slice xB_5 xN_5 xC_5, .slice (some (Addr.mk b_3 0 none)) 1 1]) _ (by kernel_rfl) (fun w => by kernel_rfl) (ss_append (T := 29) (sz := 1) (bytes := 8) (zero := .int .u64 0) Try.underlying39 Try.underlying39 rfl (show Try.prog.info? 29 = some Try.t29 from by kernel_rfl) (by kernel_rfl) (by kernel_rfl) (by decide) (by kernel_rfl) h) (by kernel_rfl) ?_
                rintro _ H18 ⟨ap, apC, rfl, h⟩
                refine ⟨[(0, .slice (some lBA) lN lC), (3, .pointer ra), (5, .slice allB allN allC), (6, .int .i64 i), (7, .pointer (some (Addr.mk b 0 none))), (14, .pointer (some (Addr.mk b_2 0 none))), (15, .int .u64 upv), (16, .int .i64 nv_2), (188, .slice ap (xN_5 + 1) apC)], ps (by kernel_rfl), (show FactsAt _ _ _ from ⟨trivial, trivial, trivial, trivial⟩), ?_⟩
                refine G_take 11 (some 189) (.pointer (some ((Addr.mk b_2 0 none).add 2))) #[true, true, true, true, true, true, true, true, true, true, true, true, false] [(0, .slice (some lBA) lN lC), (3, .pointer ra), (5, .slice allB allN allC), (6, .int .i64 i), (7, .pointer (some (Addr.mk b 0 none))), (14, .pointer (some (Addr.mk b_2 0 none))), (15, .int .u64 upv), (16, .int .i64 nv_2), (188, .slice ap (xN_5 + 1) apC), (189, .pointer (some ((Addr.mk b_2 0 none).add 2)))] (pure (.value (.pointer (some ((Addr.mk b_2 0 none).add 2)))) : Sem Next) (fun w => by kernel_rfl) (fun _ _ _ _ _ => rfl) (by kernel_rfl) (by kernel_rfl) (by kernel_rfl) (by kernel_rfl) (by kernel_rfl) (ps (by kernel_rfl)) ?_
                obtain ⟨q101, h⟩ := h
                refine G_onlyskip 12 none #[true, true, true, true, true, true, true, true, true, true, true, true, true] (storeN 39 (.pointer (some ((Addr.mk b_2 0 none).add 2))) (.slice ap (xN_5 + 1) apC)) (fun Hz => Hz = hputs H18 ((Addr.mk b_2 0 none).add 2) [.slice ap (xN_5 + 1) apC] 0) (by kernel_rfl) (fun w => by kernel_rfl) (ss_store [.slice ap (xN_5 + 1) apC] 1 (by kernel_rfl) (by kernel_rfl) (fun w => by kernel_rfl) (by kernel_rfl) q101) (by kernel_rfl) ?_
                intro H19 e100
                replace h := h H19 e100
                refine ⟨[(0, .slice (some lBA) lN lC), (3, .pointer ra), (5, .slice allB allN allC), (6, .int .i64 i), (7, .pointer (some (Addr.mk b 0 none))), (14, .pointer (some (Addr.mk b_2 0 none))), (15, .int .u64 upv), (16, .int .i64 nv_2)], ps (by kernel_rfl), (show FactsAt _ _ _ from ⟨trivial, trivial, trivial, trivial⟩), ?_⟩
                refine G_sub [(0, .slice (some lBA) lN lC), (3, .pointer ra), (5, .slice allB allN allC), (6, .int .i64 i), (7, .pointer (some (Addr.mk b 0 none))), (14, .pointer (some (Addr.mk b_2 0 none))), (15, .int .u64 upv), (16, .int .i64 nv_2)] (sb (by kernel_rfl)) ?_
                refine G_end (by kernel_rfl) ?_
                refine S_blockEnd ?_
                refine S_then ?_
                refine S_region 33 (Code.ops morainelaw20_FrameLexical.k114) (by kernel_rfl) ?_
                refine N_run 3 [(0, .slice (some lBA) lN lC), (3, .pointer ra), (5, .slice allB allN allC), (6, .int .i64 i), (7, .pointer (some (Addr.mk b 0 none))), (14, .pointer (some (Addr.mk b_2 0 none))), (15, .int .u64 upv), (16, .int .i64 (IntKind.wrap .i64 (nv_2 + 1)))] (fun w => by kernel_rfl) ?_
                refine N_end (by kernel_rfl) ?_
                refine S_then ?_
                exact S_round ((IntKind.wrap .i64 (nv_2 + 1)) : Int) (sb (by kernel_rfl)) h
              · rw [if_neg c91] at h
                have b92 : (decide (nv_2 < (xN_4 : Int))) = false := decide_eq_false c91
                refine S_env [(0, .slice (some lBA) lN lC), (3, .pointer ra), (5, .slice allB allN allC), (6, .int .i64 i), (7, .pointer (some (Addr.mk b 0 none))), (14, .pointer (some (Addr.mk b_2 0 none))), (15, .int .u64 upv), (16, .int .i64 nv_2), (175, .bool false)] (by simp only [b92, Bool.not_true, Bool.not_false]) ?_
                clear b92
                refine S_condF (.tmp 175) morainelaw20_FrameLexical.k111 morainelaw20_FrameLexical.k112 (by kernel_rfl) (by kernel_rfl) ?_
                refine S_exit 4 (by kernel_rfl) ?_
                refine S_exitThen ?_
                refine S_exitThen ?_
                refine S_exitHere ?_
                refine S_then ?_
                refine S_seq morainelaw20_FrameLexical.k116 morainelaw20_FrameLexical.k117 (by kernel_rfl) ?_
                refine S_region 35 (Code.ops morainelaw20_FrameLexical.k116) (by kernel_rfl) ?_
                refine N_run 3 [(0, .slice (some lBA) lN lC), (3, .pointer ra), (5, .slice allB allN allC), (6, .int .i64 i), (14, .pointer (some (Addr.mk b_2 0 none))), (191, .pointer ra), (192, .int .u64 upv), (193, .pointer (some ((Addr.mk b_2 0 none).add 2)))] (fun w => by kernel_rfl) ?_
                obtain ⟨xB_7, xN_7, xC_7, q102, h⟩ := h
                refine N_val (some 194) (loadN 39 (.pointer (some ((Addr.mk b_2 0 none).add 2)))) (.slice xB_7 xN_7 xC_7) (fun w => by kernel_rfl) (loadN_run (loadOK_one (fun w => by kernel_rfl) q102)) [(0, .slice (some lBA) lN lC), (3, .pointer ra), (5, .slice allB allN allC), (6, .int .i64 i), (14, .pointer (some (Addr.mk b_2 0 none))), (191, .pointer ra), (192, .int .u64 upv), (194, .slice xB_7 xN_7 xC_7)] (ps (by kernel_rfl)) ?_
                refine N_call (some 195) 20 #[.pointer ra, .int .u64 upv, .slice xB_7 xN_7 xC_7] (fun w => by kernel_rfl) h ?_; clear h
                rintro v_5 H20 ⟨ra_2, rb_2, rfl, h⟩
                refine ⟨[(0, .slice (some lBA) lN lC), (3, .pointer ra), (5, .slice allB allN allC), (6, .int .i64 i), (14, .pointer (some (Addr.mk b_2 0 none))), (195, .tuple #[.int .u64 ra_2, .int .i64 rb_2])], ps (by kernel_rfl), ?_⟩
                refine N_run 5 [(0, .slice (some lBA) lN lC), (3, .pointer ra), (5, .slice allB allN allC), (6, .int .i64 i), (14, .pointer (some (Addr.mk b_2 0 none))), (17, .int .u64 ra_2), (18, .int .i64 rb_2)] (fun w => by kernel_rfl) ?_
                refine N_end (by kernel_rfl) ?_
                refine S_then ?_
                refine S_seq morainelaw20_FrameLexical.k118 morainelaw20_FrameLexical.k119 (by kernel_rfl) ?_
                refine S_seq morainelaw20_FrameLexical.k120 morainelaw20_FrameLexical.k121 (by kernel_rfl) ?_
                refine S_region 36 (Code.ops morainelaw20_FrameLexical.k120) (by kernel_rfl) ?_
                refine N_run 2 [(0, .slice (some lBA) lN lC), (3, .pointer ra), (5, .slice allB allN allC), (6, .int .i64 i), (14, .pointer (some (Addr.mk b_2 0 none))), (17, .int .u64 ra_2), (199, .bool (rb_2 != 0))] (fun w => by kernel_rfl) ?_
                refine N_end (by kernel_rfl) ?_
                refine S_then ?_
                by_cases c103 : rb_2 = 0
                · rw [if_pos c103] at h
                  have b104 : (rb_2 != 0) = false := bne_eq_false_iff_eq.mpr c103
                  refine S_env [(0, .slice (some lBA) lN lC), (3, .pointer ra), (5, .slice allB allN allC), (6, .int .i64 i), (14, .pointer (some (Addr.mk b_2 0 none))), (17, .int .u64 ra_2), (199, .bool false)] (by simp only [b104, Bool.not_true, Bool.not_false]) ?_
                  clear b104
                  refine S_condF (.tmp 199) morainelaw20_FrameLexical.k122 morainelaw20_FrameLexical.k123 (by kernel_rfl) (by kernel_rfl) ?_
                  refine S_skip (by kernel_rfl) ?_
                  refine S_then ?_
                  refine S_seq morainelaw20_FrameLexical.k124 morainelaw20_FrameLexical.k125 (by kernel_rfl) ?_
                  refine S_region 38 (Code.ops morainelaw20_FrameLexical.k124) (by kernel_rfl) ?_
                  refine N_run 2 [(0, .slice (some lBA) lN lC), (3, .pointer ra), (5, .slice allB allN allC), (6, .int .i64 i), (14, .pointer (some (Addr.mk b_2 0 none))), (200, .int .u64 ra_2), (201, .pointer (some (Addr.mk b_2 0 none)))] (fun w => by kernel_rfl) ?_
                  obtain ⟨q106, h⟩ := h
                  refine N_skipop none (storeN 29 (.pointer (some (Addr.mk b_2 0 none))) (.int .u64 ra_2)) (fun Hz => Hz = hputs H20 (Addr.mk b_2 0 none) [.int .u64 ra_2] 0) (fun w => by kernel_rfl) (ss_store [.int .u64 ra_2] 1 (by kernel_rfl) (by kernel_rfl) (fun w => by kernel_rfl) (by kernel_rfl) q106) ?_
                  intro H21 e105
                  replace h := h H21 e105
                  refine ⟨[(0, .slice (some lBA) lN lC), (3, .pointer ra), (5, .slice allB allN allC), (6, .int .i64 i), (14, .pointer (some (Addr.mk b_2 0 none)))], ps (by kernel_rfl), ?_⟩
                  refine N_end (by kernel_rfl) ?_
                  refine S_then ?_
                  refine S_seq morainelaw20_FrameLexical.k126 morainelaw20_FrameLexical.k127 (by kernel_rfl) ?_
                  refine S_region 39 (Code.ops morainelaw20_FrameLexical.k126) (by kernel_rfl) ?_
                  refine N_new (some 202) (fun b => .slice (some (Addr.mk b 0 none)) 0 0) (.cells #[] 29) (fun w => by kernel_rfl) ?_
                  intro b_4 H22 e107 e108
                  replace h := h b_4 H22 e107 e108
                  refine ⟨[(0, .slice (some lBA) lN lC), (3, .pointer ra), (5, .slice allB allN allC), (6, .int .i64 i), (14, .pointer (some (Addr.mk b_2 0 none))), (202, .slice (some (Addr.mk b_4 0 none)) 0 0)], ps (by kernel_rfl), ?_⟩
                  refine N_run 1 [(0, .slice (some lBA) lN lC), (3, .pointer ra), (5, .slice allB allN allC), (6, .int .i64 i), (14, .pointer (some (Addr.mk b_2 0 none))), (202, .slice (some (Addr.mk b_4 0 none)) 0 0), (203, .pointer (some ((Addr.mk b_2 0 none).add 2)))] (fun w => by kernel_rfl) ?_
                  obtain ⟨xB_8, xN_8, xC_8, q109, h⟩ := h
                  refine N_val (some 204) (loadN 39 (.pointer (some ((Addr.mk b_2 0 none).add 2)))) (.slice xB_8 xN_8 xC_8) (fun w => by kernel_rfl) (loadN_run (loadOK_one (fun w => by kernel_rfl) q109)) [(0, .slice (some lBA) lN lC), (3, .pointer ra), (5, .slice allB allN allC), (6, .int .i64 i), (14, .pointer (some (Addr.mk b_2 0 none))), (202, .slice (some (Addr.mk b_4 0 none)) 0 0), (204, .slice xB_8 xN_8 xC_8)] (ps (by kernel_rfl)) ?_
                  refine N_op (some 205) (appendN #[39, 39] 39 #[.slice (some (Addr.mk b_4 0 none)) 0 0, .slice xB_8 xN_8 xC_8]) _ (fun w => by kernel_rfl) (ss_append (T := 29) (sz := 1) (bytes := 8) (zero := .int .u64 0) Try.underlying39 Try.underlying39 rfl (show Try.prog.info? 29 = some Try.t29 from by kernel_rfl) (by kernel_rfl) (by kernel_rfl) (by decide) (by kernel_rfl) h) ?_
                  rintro _ H23 ⟨ap_2, apC_2, rfl, h⟩
                  refine ⟨[(0, .slice (some lBA) lN lC), (3, .pointer ra), (5, .slice allB allN allC), (6, .int .i64 i), (14, .pointer (some (Addr.mk b_2 0 none))), (205, .slice ap_2 (0 + xN_8) apC_2)], ps (by kernel_rfl), ?_⟩
                  refine N_run 1 [(0, .slice (some lBA) lN lC), (3, .pointer ra), (5, .slice allB allN allC), (6, .int .i64 i), (14, .pointer (some (Addr.mk b_2 0 none))), (205, .slice ap_2 (0 + xN_8) apC_2), (206, .pointer (some ((Addr.mk b_2 0 none).add 2)))] (fun w => by kernel_rfl) ?_
                  obtain ⟨q111, h⟩ := h
                  refine N_skipop none (storeN 39 (.pointer (some ((Addr.mk b_2 0 none).add 2))) (.slice ap_2 (0 + xN_8) apC_2)) (fun Hz => Hz = hputs H23 ((Addr.mk b_2 0 none).add 2) [.slice ap_2 (0 + xN_8) apC_2] 0) (fun w => by kernel_rfl) (ss_store [.slice ap_2 (0 + xN_8) apC_2] 1 (by kernel_rfl) (by kernel_rfl) (fun w => by kernel_rfl) (by kernel_rfl) q111) ?_
                  intro H24 e110
                  replace h := h H24 e110
                  refine ⟨[(0, .slice (some lBA) lN lC), (3, .pointer ra), (5, .slice allB allN allC), (6, .int .i64 i), (14, .pointer (some (Addr.mk b_2 0 none)))], ps (by kernel_rfl), ?_⟩
                  refine N_end (by kernel_rfl) ?_
                  refine S_then ?_
                  refine S_region 40 (Code.ops morainelaw20_FrameLexical.k127) (by kernel_rfl) ?_
                  refine N_run 1 [(0, .slice (some lBA) lN lC), (3, .pointer ra), (6, .int .i64 i), (14, .pointer (some (Addr.mk b_2 0 none))), (207, .slice allB allN allC)] (fun w => by kernel_rfl) ?_
                  obtain ⟨xw, xparent, xlB, xlN, xlC, q112, h⟩ := h
                  refine N_val (some 208) (loadN 52 (.pointer (some (Addr.mk b_2 0 none)))) (.agg #[.int .u64 xw, .int .i64 xparent, .slice xlB xlN xlC]) (fun w => by kernel_rfl) (loadN_run (loadOK_row (fun w => by kernel_rfl) (fun w => by kernel_rfl) q112)) [(0, .slice (some lBA) lN lC), (3, .pointer ra), (6, .int .i64 i), (207, .slice allB allN allC), (208, .agg #[.int .u64 xw, .int .i64 xparent, .slice xlB xlN xlC])] (ps (by kernel_rfl)) ?_
                  refine N_new (some 209) (fun b => .slice (some (Addr.mk b 0 none)) 1 1) (.cells #[.int .u64 xw, .int .i64 xparent, .slice xlB xlN xlC] 52) (fun w => by kernel_rfl) ?_
                  intro b_5 H25 e113 e114
                  replace h := h b_5 H25 e113 e114
                  refine ⟨[(0, .slice (some lBA) lN lC), (3, .pointer ra), (6, .int .i64 i), (207, .slice allB allN allC), (209, .slice (some (Addr.mk b_5 0 none)) 1 1)], ps (by kernel_rfl), ?_⟩
                  refine N_op (some 210) (appendN #[48, 48] 48 #[.slice allB allN allC, .slice (some (Addr.mk b_5 0 none)) 1 1]) _ (fun w => by kernel_rfl) (ss_append (T := 52) (sz := 3) (bytes := 40) (zero := .agg #[.int .u64 0, .int .i64 0, .slice none 0 0]) Try.underlying48 Try.underlying48 rfl (show Try.prog.info? 52 = some Try.t52 from by kernel_rfl) (by kernel_rfl) (by kernel_rfl) (by decide) (by kernel_rfl) h) ?_
                  rintro _ H26 ⟨ap_3, apC_3, rfl, h⟩
                  refine ⟨[(0, .slice (some lBA) lN lC), (3, .pointer ra), (6, .int .i64 i), (210, .slice ap_3 (allN + 1) apC_3)], ps (by kernel_rfl), ?_⟩
                  refine N_run 1 [(0, .slice (some lBA) lN lC), (3, .pointer ra), (5, .slice ap_3 (allN + 1) apC_3), (6, .int .i64 i)] (fun w => by kernel_rfl) ?_
                  refine N_end (by kernel_rfl) ?_
                  refine S_blockEnd ?_
                  refine S_then ?_
                  refine S_region 7 (Code.ops morainelaw20_FrameLexical.k28) (by kernel_rfl) ?_
                  refine N_run 3 [(0, .slice (some lBA) lN lC), (3, .pointer ra), (5, .slice ap_3 (allN + 1) apC_3), (6, .int .i64 (IntKind.wrap .i64 (i + 1)))] (fun w => by kernel_rfl) ?_
                  refine N_end (by kernel_rfl) ?_
                  refine S_then ?_
                  exact S_round ((ap_3, (allN + 1), apC_3, (IntKind.wrap .i64 (i + 1))) : (Option Addr) × Nat × Nat × Int) (sb (by kernel_rfl)) h
                · rw [if_neg c103] at h
                  have b104 : (rb_2 != 0) = true := bne_iff_ne.mpr c103
                  refine S_env [(0, .slice (some lBA) lN lC), (3, .pointer ra), (5, .slice allB allN allC), (6, .int .i64 i), (14, .pointer (some (Addr.mk b_2 0 none))), (17, .int .u64 ra_2), (199, .bool true)] (by simp only [b104, Bool.not_true, Bool.not_false]) ?_
                  clear b104
                  refine S_condT (.tmp 199) morainelaw20_FrameLexical.k122 morainelaw20_FrameLexical.k123 (by kernel_rfl) (by kernel_rfl) ?_
                  refine S_seq morainelaw20_FrameLexical.k128 morainelaw20_FrameLexical.k129 (by kernel_rfl) ?_
                  refine S_region 37 (Code.ops morainelaw20_FrameLexical.k128) (by kernel_rfl) ?_
                  refine N_run 1 [(2, .bool false)] (fun w => by kernel_rfl) ?_
                  refine N_end (by kernel_rfl) ?_
                  refine S_then ?_
                  refine S_ret (by kernel_rfl) ?_
                  show At _ _ _ _ (Q .ret)
                  exact S_done (fn := Try.f5) [.bool false] hQ (show ResOK _ _ _ [.tmp 2] _ from .tmp (by kernel_rfl) (.nil)) h
            · by_cases c115 : (Int.tmod (iand .i64 x_3 65535) (IntKind.wrap .i64 ((allN : Int) + 1))) = (allN : Int)
              · rw [if_pos c115] at h
                have b116 : ((Int.tmod (iand .i64 x_3 65535) (IntKind.wrap .i64 ((allN : Int) + 1))) == (allN : Int)) = true := beq_iff_eq.mpr c115
                refine S_env [(0, .slice (some lBA) lN lC), (3, .pointer ra), (5, .slice allB allN allC), (6, .int .i64 i), (7, .pointer (some (Addr.mk b 0 none))), (8, .int .i64 (Int.tmod (iand .i64 x_3 65535) (IntKind.wrap .i64 ((allN : Int) + 1)))), (14, .pointer (some (Addr.mk b_2 0 none))), (15, .int .u64 20), (164, .bool true)] (by simp only [b116, Bool.not_true, Bool.not_false]) ?_
                clear b116
                refine S_condT (.tmp 164) morainelaw20_FrameLexical.k99 morainelaw20_FrameLexical.k100 (by kernel_rfl) (by kernel_rfl) ?_
                refine S_region 29 (Code.ops morainelaw20_FrameLexical.k99) (by kernel_rfl) ?_
                refine N_run 1 [(0, .slice (some lBA) lN lC), (3, .pointer ra), (5, .slice allB allN allC), (6, .int .i64 i), (7, .pointer (some (Addr.mk b 0 none))), (14, .pointer (some (Addr.mk b_2 0 none))), (15, .int .u64 20), (165, .pointer (some ((Addr.mk b_2 0 none).add 1)))] (fun w => by kernel_rfl) ?_
                obtain ⟨q118, h⟩ := h
                refine N_skipop none (storeN 3 (.pointer (some ((Addr.mk b_2 0 none).add 1))) (.int .i64 (-1))) (fun Hz => Hz = hputs H14 ((Addr.mk b_2 0 none).add 1) [.int .i64 (-1)] 0) (fun w => by kernel_rfl) (ss_store [.int .i64 (-1)] 1 (by kernel_rfl) (by kernel_rfl) (fun w => by kernel_rfl) (by kernel_rfl) q118) ?_
                intro H27 e117
                replace h := h H27 e117
                refine ⟨[(0, .slice (some lBA) lN lC), (3, .pointer ra), (5, .slice allB allN allC), (6, .int .i64 i), (7, .pointer (some (Addr.mk b 0 none))), (14, .pointer (some (Addr.mk b_2 0 none))), (15, .int .u64 20)], ps (by kernel_rfl), ?_⟩
                refine N_end (by kernel_rfl) ?_
                refine S_then ?_
                exact S_meet (20 : Int) (sb (by kernel_rfl)) h
              · rw [if_neg c115] at h
                have b116 : ((Int.tmod (iand .i64 x_3 65535) (IntKind.wrap .i64 ((allN : Int) + 1))) == (allN : Int)) = false := beq_eq_false_iff_ne.mpr c115
                refine S_env [(0, .slice (some lBA) lN lC), (3, .pointer ra), (5, .slice allB allN allC), (6, .int .i64 i), (7, .pointer (some (Addr.mk b 0 none))), (8, .int .i64 (Int.tmod (iand .i64 x_3 65535) (IntKind.wrap .i64 ((allN : Int) + 1)))), (14, .pointer (some (Addr.mk b_2 0 none))), (15, .int .u64 20), (164, .bool false)] (by simp only [b116, Bool.not_true, Bool.not_false]) ?_
                clear b116
                refine S_condF (.tmp 164) morainelaw20_FrameLexical.k99 morainelaw20_FrameLexical.k100 (by kernel_rfl) (by kernel_rfl) ?_
                refine S_region 30 (Code.ops morainelaw20_FrameLexical.k100) (by kernel_rfl) ?_
                refine N_run 2 [(0, .slice (some lBA) lN lC), (3, .pointer ra), (5, .slice allB allN allC), (6, .int .i64 i), (7, .pointer (some (Addr.mk b 0 none))), (14, .pointer (some (Addr.mk b_2 0 none))), (166, .slice allB allN allC), (167, .int .i64 (Int.tmod (iand .i64 x_3 65535) (IntKind.wrap .i64 ((allN : Int) + 1))))] (fun w => by kernel_rfl) ?_
                obtain ⟨allBA_3, rfl, h⟩ := h
                obtain ⟨q119, h⟩ := h
                refine N_val (some 168) (indexAtN 48 (.slice (some allBA_3) allN allC) (.int .i64 (Int.tmod (iand .i64 x_3 65535) (IntKind.wrap .i64 ((allN : Int) + 1))))) (.pointer (some (allBA_3.add (Int.toNat (Int.tmod (iand .i64 x_3 65535) (IntKind.wrap .i64 ((allN : Int) + 1))) * 3)))) (fun w => by kernel_rfl) (fun w _ => indexAt_run (P := Try.prog) (t := 48) (elem := 52) (sz := 3) (a := allBA_3) (len := allN) (cap := allC) (k := .i64) (i := (Int.tmod (iand .i64 x_3 65535) (IntKind.wrap .i64 ((allN : Int) + 1)))) Try.underlying48 (fun w => by kernel_rfl) q119.1 q119.2 w) [(0, .slice (some lBA) lN lC), (3, .pointer ra), (5, .slice (some allBA_3) allN allC), (6, .int .i64 i), (7, .pointer (some (Addr.mk b 0 none))), (14, .pointer (some (Addr.mk b_2 0 none))), (168, .pointer (some (allBA_3.add (Int.toNat (Int.tmod (iand .i64 x_3 65535) (IntKind.wrap .i64 ((allN : Int) + 1))) * 3))))] (ps (by kernel_rfl)) ?_
                refine N_run 1 [(0, .slice (some lBA) lN lC), (3, .pointer ra), (5, .slice (some allBA_3) allN allC), (6, .int .i64 i), (7, .pointer (some (Addr.mk b 0 none))), (14, .pointer (some (Addr.mk b_2 0 none))), (169, .pointer (some (allBA_3.add (Int.toNat (Int.tmod (iand .i64 x_3 65535) (IntKind.wrap .i64 ((allN : Int) + 1))) * 3))))] (fun w => by kernel_rfl) ?_
                obtain ⟨x_18, q120, h⟩ := h
                refine N_val (some 170) (loadN 29 (.pointer (some (allBA_3.add (Int.toNat (Int.tmod (iand .i64 x_3 65535) (IntKind.wrap .i64 ((allN : Int) + 1))) * 3))))) (.int .u64 x_18) (fun w => by kernel_rfl) (loadN_run (loadOK_one (fun w => by kernel_rfl) q120)) [(0, .slice (some lBA) lN lC), (3, .pointer ra), (5, .slice (some allBA_3) allN allC), (6, .int .i64 i), (7, .pointer (some (Addr.mk b 0 none))), (14, .pointer (some (Addr.mk b_2 0 none))), (170, .int .u64 x_18)] (ps (by kernel_rfl)) ?_
                refine N_run 1 [(0, .slice (some lBA) lN lC), (3, .pointer ra), (5, .slice (some allBA_3) allN allC), (6, .int .i64 i), (7, .pointer (some (Addr.mk b 0 none))), (14, .pointer (some (Addr.mk b_2 0 none))), (15, .int .u64 x_18)] (fun w => by kernel_rfl) ?_
                refine N_end (by kernel_rfl) ?_
                refine S_then ?_
                exact S_meet (x_18 : Int) (sb (by kernel_rfl)) h
      · rw [if_neg c13] at h
        have b14 : (decide (i < (lN : Int))) = false := decide_eq_false c13
        refine S_env [(0, .slice lB lN lC), (3, .pointer ra), (5, .slice allB allN allC), (6, .int .i64 i), (48, .bool false)] (by simp only [b14, Bool.not_true, Bool.not_false]) ?_
        clear b14
        refine S_condF (.tmp 48) morainelaw20_FrameLexical.k25 morainelaw20_FrameLexical.k26 (by kernel_rfl) (by kernel_rfl) ?_
        refine S_exit 0 (by kernel_rfl) ?_
        refine S_exitThen ?_
        refine S_exitThen ?_
        refine S_exitHere ?_
        refine S_then ?_
        refine S_seq morainelaw20_FrameLexical.k130 morainelaw20_FrameLexical.k131 (by kernel_rfl) ?_
        refine S_seq morainelaw20_FrameLexical.k132 morainelaw20_FrameLexical.k133 (by kernel_rfl) ?_
        refine S_region 41 (Code.ops morainelaw20_FrameLexical.k132) (by kernel_rfl) ?_
        refine N_run 1 [(3, .pointer ra), (5, .slice allB allN allC), (19, .int .i64 0)] (fun w => by kernel_rfl) ?_
        refine N_end (by kernel_rfl) ?_
        refine S_then ?_
        refine S_block 6 morainelaw20_FrameLexical.k134 (by kernel_rfl) ?_
        obtain ⟨I136, m136, i121, i122⟩ := h
        refine S_loop (x := morainelaw20_FrameLexical.k135) (σ := Int) (fun s_ => [(3, .pointer ra), (5, .slice allB allN allC), (19, .int .i64 s_)]) (fun s_ H => I136 s_ H) (fun s_ H => m136 s_ H) (0 : Int) (by kernel_rfl) i121 (sb (by kernel_rfl)) ?_
        rintro i_2 H28 i123
        have h := i122 i_2 H28 i123
        refine S_sub [(3, .pointer ra), (5, .slice allB allN allC), (19, .int .i64 i_2)] (sb (by kernel_rfl)) ?_
        refine S_seq morainelaw20_FrameLexical.k136 morainelaw20_FrameLexical.k137 (by kernel_rfl) ?_
        refine S_seq morainelaw20_FrameLexical.k138 morainelaw20_FrameLexical.k139 (by kernel_rfl) ?_
        refine S_region 42 (Code.ops morainelaw20_FrameLexical.k138) (by kernel_rfl) ?_
        refine N_run 4 [(3, .pointer ra), (5, .slice allB allN allC), (19, .int .i64 i_2), (214, .bool (decide (i_2 < (allN : Int))))] (fun w => by kernel_rfl) ?_
        refine N_end (by kernel_rfl) ?_
        refine S_then ?_
        by_cases c124 : i_2 < (allN : Int)
        · rw [if_pos c124] at h
          have b125 : (decide (i_2 < (allN : Int))) = true := decide_eq_true c124
          refine S_env [(3, .pointer ra), (5, .slice allB allN allC), (19, .int .i64 i_2), (214, .bool true)] (by simp only [b125, Bool.not_true, Bool.not_false]) ?_
          clear b125
          refine S_condT (.tmp 214) morainelaw20_FrameLexical.k140 morainelaw20_FrameLexical.k141 (by kernel_rfl) (by kernel_rfl) ?_
          refine S_skip (by kernel_rfl) ?_
          refine S_then ?_
          refine S_seq morainelaw20_FrameLexical.k142 morainelaw20_FrameLexical.k143 (by kernel_rfl) ?_
          refine S_block 7 morainelaw20_FrameLexical.k144 (by kernel_rfl) ?_
          refine S_seq morainelaw20_FrameLexical.k145 morainelaw20_FrameLexical.k146 (by kernel_rfl) ?_
          refine S_region 44 (Code.ops morainelaw20_FrameLexical.k145) (by kernel_rfl) ?_
          refine N_run 1 [(3, .pointer ra), (5, .slice allB allN allC), (19, .int .i64 i_2), (20, .int .i64 0)] (fun w => by kernel_rfl) ?_
          refine N_end (by kernel_rfl) ?_
          refine S_then ?_
          refine S_seq morainelaw20_FrameLexical.k147 morainelaw20_FrameLexical.k148 (by kernel_rfl) ?_
          refine S_seq morainelaw20_FrameLexical.k149 morainelaw20_FrameLexical.k150 (by kernel_rfl) ?_
          refine S_region 45 (Code.ops morainelaw20_FrameLexical.k149) (by kernel_rfl) ?_
          refine N_run 2 [(3, .pointer ra), (5, .slice allB allN allC), (19, .int .i64 i_2), (20, .int .i64 0), (21, .int .i64 i_2)] (fun w => by kernel_rfl) ?_
          refine N_end (by kernel_rfl) ?_
          refine S_then ?_
          refine S_block 8 morainelaw20_FrameLexical.k151 (by kernel_rfl) ?_
          obtain ⟨I153, m153, i126, i127⟩ := h
          refine S_loop (x := morainelaw20_FrameLexical.k152) (σ := Int × Int) (fun s_ => [(3, .pointer ra), (5, .slice allB allN allC), (19, .int .i64 i_2), (20, .int .i64 s_.1), (21, .int .i64 s_.2)]) (fun s_ H => I153 s_.1 s_.2 H) (fun s_ H => m153 s_.1 s_.2 H) ((0, i_2) : Int × Int) (by kernel_rfl) i126 (sb (by kernel_rfl)) ?_
          rintro ⟨upv_2, k⟩ H29 i128
          have h := i127 upv_2 k H29 i128
          refine S_sub [(3, .pointer ra), (5, .slice allB allN allC), (19, .int .i64 i_2), (20, .int .i64 upv_2), (21, .int .i64 k)] (sb (by kernel_rfl)) ?_
          refine S_seq morainelaw20_FrameLexical.k153 morainelaw20_FrameLexical.k154 (by kernel_rfl) ?_
          refine S_seq morainelaw20_FrameLexical.k155 morainelaw20_FrameLexical.k156 (by kernel_rfl) ?_
          refine S_region 46 (Code.ops morainelaw20_FrameLexical.k155) (by kernel_rfl) ?_
          refine N_run 2 [(3, .pointer ra), (5, .slice allB allN allC), (19, .int .i64 i_2), (20, .int .i64 upv_2), (21, .int .i64 k), (219, .bool (decide (k ≥ 0)))] (fun w => by kernel_rfl) ?_
          refine N_end (by kernel_rfl) ?_
          refine S_then ?_
          by_cases c129 : k ≥ 0
          · rw [if_pos c129] at h
            have b130 : (decide (k ≥ 0)) = true := decide_eq_true c129
            refine S_env [(3, .pointer ra), (5, .slice allB allN allC), (19, .int .i64 i_2), (20, .int .i64 upv_2), (21, .int .i64 k), (219, .bool true)] (by simp only [b130, Bool.not_true, Bool.not_false]) ?_
            clear b130
            refine S_condT (.tmp 219) morainelaw20_FrameLexical.k157 morainelaw20_FrameLexical.k158 (by kernel_rfl) (by kernel_rfl) ?_
            refine S_skip (by kernel_rfl) ?_
            refine S_then ?_
            refine S_seq morainelaw20_FrameLexical.k159 morainelaw20_FrameLexical.k160 (by kernel_rfl) ?_
            refine S_block 9 morainelaw20_FrameLexical.k161 (by kernel_rfl) ?_
            refine S_seq morainelaw20_FrameLexical.k162 morainelaw20_FrameLexical.k163 (by kernel_rfl) ?_
            refine S_seq morainelaw20_FrameLexical.k164 morainelaw20_FrameLexical.k165 (by kernel_rfl) ?_
            refine S_region 48 (Code.ops morainelaw20_FrameLexical.k164) (by kernel_rfl) ?_
            refine N_run 1 [(3, .pointer ra), (5, .slice allB allN allC), (19, .int .i64 i_2), (20, .int .i64 upv_2), (21, .int .i64 k), (22, .int .i64 0)] (fun w => by kernel_rfl) ?_
            refine N_end (by kernel_rfl) ?_
            refine S_then ?_
            refine S_block 10 morainelaw20_FrameLexical.k166 (by kernel_rfl) ?_
            obtain ⟨I168, m168, i131, i132⟩ := h
            refine S_loop (x := morainelaw20_FrameLexical.k167) (σ := Int) (fun s_ => [(3, .pointer ra), (5, .slice allB allN allC), (19, .int .i64 i_2), (20, .int .i64 upv_2), (21, .int .i64 k), (22, .int .i64 s_)]) (fun s_ H => I168 s_ H) (fun s_ H => m168 s_ H) (0 : Int) (by kernel_rfl) i131 (sb (by kernel_rfl)) ?_
            rintro nv_3 H30 i133
            have h := i132 nv_3 H30 i133
            refine S_sub [(3, .pointer ra), (5, .slice allB allN allC), (19, .int .i64 i_2), (20, .int .i64 upv_2), (21, .int .i64 k), (22, .int .i64 nv_3)] (sb (by kernel_rfl)) ?_
            refine S_seq morainelaw20_FrameLexical.k168 morainelaw20_FrameLexical.k169 (by kernel_rfl) ?_
            refine S_seq morainelaw20_FrameLexical.k170 morainelaw20_FrameLexical.k171 (by kernel_rfl) ?_
            refine S_region 49 (Code.ops morainelaw20_FrameLexical.k170) (by kernel_rfl) ?_
            refine N_run 3 [(3, .pointer ra), (5, .slice allB allN allC), (19, .int .i64 i_2), (20, .int .i64 upv_2), (21, .int .i64 k), (22, .int .i64 nv_3), (225, .int .i64 nv_3), (226, .slice allB allN allC), (227, .int .i64 k)] (fun w => by kernel_rfl) ?_
            obtain ⟨allBA_4, rfl, h⟩ := h
            obtain ⟨q134, h⟩ := h
            refine N_val (some 228) (indexAtN 48 (.slice (some allBA_4) allN allC) (.int .i64 k)) (.pointer (some (allBA_4.add (Int.toNat k * 3)))) (fun w => by kernel_rfl) (fun w _ => indexAt_run (P := Try.prog) (t := 48) (elem := 52) (sz := 3) (a := allBA_4) (len := allN) (cap := allC) (k := .i64) (i := k) Try.underlying48 (fun w => by kernel_rfl) q134.1 q134.2 w) [(3, .pointer ra), (5, .slice (some allBA_4) allN allC), (19, .int .i64 i_2), (20, .int .i64 upv_2), (21, .int .i64 k), (22, .int .i64 nv_3), (225, .int .i64 nv_3), (228, .pointer (some (allBA_4.add (Int.toNat k * 3))))] (ps (by kernel_rfl)) ?_
            refine N_run 1 [(3, .pointer ra), (5, .slice (some allBA_4) allN allC), (19, .int .i64 i_2), (20, .int .i64 upv_2), (21, .int .i64 k), (22, .int .i64 nv_3), (225, .int .i64 nv_3), (229, .pointer (some ((allBA_4.add (Int.toNat k * 3)).add 2)))] (fun w => by kernel_rfl) ?_
            obtain ⟨xB_9, xN_9, xC_9, q135, h⟩ := h
            refine N_val (some 230) (loadN 39 (.pointer (some ((allBA_4.add (Int.toNat k * 3)).add 2)))) (.slice xB_9 xN_9 xC_9) (fun w => by kernel_rfl) (loadN_run (loadOK_one (fun w => by kernel_rfl) q135)) [(3, .pointer ra), (5, .slice (some allBA_4) allN allC), (19, .int .i64 i_2), (20, .int .i64 upv_2), (21, .int .i64 k), (22, .int .i64 nv_3), (225, .int .i64 nv_3), (230, .slice xB_9 xN_9 xC_9)] (ps (by kernel_rfl)) ?_
            refine N_run 2 [(3, .pointer ra), (5, .slice (some allBA_4) allN allC), (19, .int .i64 i_2), (20, .int .i64 upv_2), (21, .int .i64 k), (22, .int .i64 nv_3), (232, .bool (decide (nv_3 < (xN_9 : Int))))] (fun w => by kernel_rfl) ?_
            refine N_end (by kernel_rfl) ?_
            refine S_then ?_
            by_cases c136 : nv_3 < (xN_9 : Int)
            · rw [if_pos c136] at h
              have b137 : (decide (nv_3 < (xN_9 : Int))) = true := decide_eq_true c136
              refine S_env [(3, .pointer ra), (5, .slice (some allBA_4) allN allC), (19, .int .i64 i_2), (20, .int .i64 upv_2), (21, .int .i64 k), (22, .int .i64 nv_3), (232, .bool true)] (by simp only [b137, Bool.not_true, Bool.not_false]) ?_
              clear b137
              refine S_condT (.tmp 232) morainelaw20_FrameLexical.k172 morainelaw20_FrameLexical.k173 (by kernel_rfl) (by kernel_rfl) ?_
              refine S_skip (by kernel_rfl) ?_
              refine S_then ?_
              refine S_seq morainelaw20_FrameLexical.k174 morainelaw20_FrameLexical.k175 (by kernel_rfl) ?_
              refine S_block 11 morainelaw20_FrameLexical.k176 (by kernel_rfl) ?_
              refine S_seq morainelaw20_FrameLexical.k177 morainelaw20_FrameLexical.k178 (by kernel_rfl) ?_
              refine S_region 51 (Code.ops morainelaw20_FrameLexical.k177) (by kernel_rfl) ?_
              refine N_run 3 [(3, .pointer ra), (5, .slice (some allBA_4) allN allC), (19, .int .i64 i_2), (20, .int .i64 upv_2), (21, .int .i64 k), (22, .int .i64 nv_3), (236, .pointer ra), (237, .slice (some allBA_4) allN allC), (238, .int .i64 i_2)] (fun w => by kernel_rfl) ?_
              obtain ⟨q138, h⟩ := h
              refine N_val (some 239) (indexAtN 48 (.slice (some allBA_4) allN allC) (.int .i64 i_2)) (.pointer (some (allBA_4.add (Int.toNat i_2 * 3)))) (fun w => by kernel_rfl) (fun w _ => indexAt_run (P := Try.prog) (t := 48) (elem := 52) (sz := 3) (a := allBA_4) (len := allN) (cap := allC) (k := .i64) (i := i_2) Try.underlying48 (fun w => by kernel_rfl) q138.1 q138.2 w) [(3, .pointer ra), (5, .slice (some allBA_4) allN allC), (19, .int .i64 i_2), (20, .int .i64 upv_2), (21, .int .i64 k), (22, .int .i64 nv_3), (236, .pointer ra), (239, .pointer (some (allBA_4.add (Int.toNat i_2 * 3))))] (ps (by kernel_rfl)) ?_
              refine N_run 1 [(3, .pointer ra), (5, .slice (some allBA_4) allN allC), (19, .int .i64 i_2), (20, .int .i64 upv_2), (21, .int .i64 k), (22, .int .i64 nv_3), (236, .pointer ra), (240, .pointer (some (allBA_4.add (Int.toNat i_2 * 3))))] (fun w => by kernel_rfl) ?_
              obtain ⟨x_19, q139, h⟩ := h
              refine N_val (some 241) (loadN 29 (.pointer (some (allBA_4.add (Int.toNat i_2 * 3))))) (.int .u64 x_19) (fun w => by kernel_rfl) (loadN_run (loadOK_one (fun w => by kernel_rfl) q139)) [(3, .pointer ra), (5, .slice (some allBA_4) allN allC), (19, .int .i64 i_2), (20, .int .i64 upv_2), (21, .int .i64 k), (22, .int .i64 nv_3), (236, .pointer ra), (241, .int .u64 x_19)] (ps (by kernel_rfl)) ?_
              refine N_run 2 [(3, .pointer ra), (5, .slice (some allBA_4) allN allC), (19, .int .i64 i_2), (20, .int .i64 upv_2), (21, .int .i64 k), (22, .int .i64 nv_3), (236, .pointer ra), (241, .int .u64 x_19), (242, .int .i64 upv_2), (243, .int .i64 nv_3)] (fun w => by kernel_rfl) ?_
              refine N_call (some 244) 21 #[.pointer ra, .int .u64 x_19, .int .i64 upv_2, .int .i64 nv_3] (fun w => by kernel_rfl) h ?_; clear h
              rintro v_6 H31 ⟨ra_3, rb_3, rfl, h⟩
              refine ⟨[(3, .pointer ra), (5, .slice (some allBA_4) allN allC), (19, .int .i64 i_2), (20, .int .i64 upv_2), (21, .int .i64 k), (22, .int .i64 nv_3), (244, .tuple #[.int .u64 ra_3, .int .i64 rb_3])], ps (by kernel_rfl), ?_⟩
              refine N_run 5 [(3, .pointer ra), (5, .slice (some allBA_4) allN allC), (19, .int .i64 i_2), (20, .int .i64 upv_2), (21, .int .i64 k), (22, .int .i64 nv_3), (23, .int .u64 ra_3), (24, .int .i64 rb_3)] (fun w => by kernel_rfl) ?_
              refine N_end (by kernel_rfl) ?_
              refine S_then ?_
              refine S_seq morainelaw20_FrameLexical.k179 morainelaw20_FrameLexical.k180 (by kernel_rfl) ?_
              refine S_region 52 (Code.ops morainelaw20_FrameLexical.k179) (by kernel_rfl) ?_
              refine N_run 3 [(3, .pointer ra), (5, .slice (some allBA_4) allN allC), (19, .int .i64 i_2), (20, .int .i64 upv_2), (21, .int .i64 k), (22, .int .i64 nv_3), (23, .int .u64 ra_3), (249, .bool (rb_3 != 0))] (fun w => by kernel_rfl) ?_
              by_cases c140 : rb_3 = 0
              · rw [if_pos c140] at h
                have b141 : (rb_3 != 0) = false := bne_eq_false_iff_eq.mpr c140
                refine N_env [(3, .pointer ra), (5, .slice (some allBA_4) allN allC), (19, .int .i64 i_2), (20, .int .i64 upv_2), (21, .int .i64 k), (22, .int .i64 nv_3), (23, .int .u64 ra_3), (249, .bool false)] (by simp only [b141, Bool.not_true, Bool.not_false]) ?_
                clear b141
                refine N_run 3 [(3, .pointer ra), (5, .slice (some allBA_4) allN allC), (19, .int .i64 i_2), (20, .int .i64 upv_2), (21, .int .i64 k), (22, .int .i64 nv_3), (249, .bool false), (250, .int .u64 ra_3), (251, .slice (some allBA_4) allN allC), (252, .int .i64 k)] (fun w => by kernel_rfl) ?_
                obtain ⟨q142, h⟩ := h
                refine N_val (some 253) (indexAtN 48 (.slice (some allBA_4) allN allC) (.int .i64 k)) (.pointer (some (allBA_4.add (Int.toNat k * 3)))) (fun w => by kernel_rfl) (fun w _ => indexAt_run (P := Try.prog) (t := 48) (elem := 52) (sz := 3) (a := allBA_4) (len := allN) (cap := allC) (k := .i64) (i := k) Try.underlying48 (fun w => by kernel_rfl) q142.1 q142.2 w) [(3, .pointer ra), (5, .slice (some allBA_4) allN allC), (19, .int .i64 i_2), (20, .int .i64 upv_2), (21, .int .i64 k), (22, .int .i64 nv_3), (249, .bool false), (250, .int .u64 ra_3), (253, .pointer (some (allBA_4.add (Int.toNat k * 3))))] (ps (by kernel_rfl)) ?_
                refine N_run 1 [(3, .pointer ra), (5, .slice (some allBA_4) allN allC), (19, .int .i64 i_2), (20, .int .i64 upv_2), (21, .int .i64 k), (22, .int .i64 nv_3), (249, .bool false), (250, .int .u64 ra_3), (254, .pointer (some ((allBA_4.add (Int.toNat k * 3)).add 2)))] (fun w => by kernel_rfl) ?_
                obtain ⟨xB_10, xN_10, xC_10, q143, h⟩ := h
                refine N_val (some 255) (loadN 39 (.pointer (some ((allBA_4.add (Int.toNat k * 3)).add 2)))) (.slice xB_10 xN_10 xC_10) (fun w => by kernel_rfl) (loadN_run (loadOK_one (fun w => by kernel_rfl) q143)) [(3, .pointer ra), (5, .slice (some allBA_4) allN allC), (19, .int .i64 i_2), (20, .int .i64 upv_2), (21, .int .i64 k), (22, .int .i64 nv_3), (249, .bool false), (250, .int .u64 ra_3), (255, .slice xB_10 xN_10 xC_10)] (ps (by kernel_rfl)) ?_
                refine N_run 1 [(3, .pointer ra), (5, .slice (some allBA_4) allN allC), (19, .int .i64 i_2), (20, .int .i64 upv_2), (21, .int .i64 k), (22, .int .i64 nv_3), (249, .bool false), (250, .int .u64 ra_3), (255, .slice xB_10 xN_10 xC_10), (256, .int .i64 nv_3)] (fun w => by kernel_rfl) ?_
                obtain ⟨xB10A, rfl, h⟩ := h
                obtain ⟨q144, h⟩ := h
                refine N_val (some 257) (indexAtN 39 (.slice (some xB10A) xN_10 xC_10) (.int .i64 nv_3)) (.pointer (some (xB10A.add (Int.toNat nv_3 * 1)))) (fun w => by kernel_rfl) (fun w _ => indexAt_run (P := Try.prog) (t := 39) (elem := 29) (sz := 1) (a := xB10A) (len := xN_10) (cap := xC_10) (k := .i64) (i := nv_3) Try.underlying39 (fun w => by kernel_rfl) q144.1 q144.2 w) [(3, .pointer ra), (5, .slice (some allBA_4) allN allC), (19, .int .i64 i_2), (20, .int .i64 upv_2), (21, .int .i64 k), (22, .int .i64 nv_3), (249, .bool false), (250, .int .u64 ra_3), (257, .pointer (some (xB10A.add (Int.toNat nv_3 * 1))))] (ps (by kernel_rfl)) ?_
                obtain ⟨x_20, q145, h⟩ := h
                refine N_val (some 258) (loadN 29 (.pointer (some (xB10A.add (Int.toNat nv_3 * 1))))) (.int .u64 x_20) (fun w => by kernel_rfl) (loadN_run (loadOK_one (fun w => by kernel_rfl) q145)) [(3, .pointer ra), (5, .slice (some allBA_4) allN allC), (19, .int .i64 i_2), (20, .int .i64 upv_2), (21, .int .i64 k), (22, .int .i64 nv_3), (249, .bool false), (250, .int .u64 ra_3), (258, .int .u64 x_20)] (ps (by kernel_rfl)) ?_
                refine N_run 2 [(3, .pointer ra), (5, .slice (some allBA_4) allN allC), (19, .int .i64 i_2), (20, .int .i64 upv_2), (21, .int .i64 k), (22, .int .i64 nv_3), (260, .bool (ra_3 != x_20))] (fun w => by kernel_rfl) ?_
                refine N_end (by kernel_rfl) ?_
                refine S_then ?_
                by_cases c146 : ra_3 = x_20
                · rw [if_pos c146] at h
                  have b147 : (ra_3 != x_20) = false := bne_eq_false_iff_eq.mpr c146
                  refine S_env [(3, .pointer ra), (5, .slice (some allBA_4) allN allC), (19, .int .i64 i_2), (20, .int .i64 upv_2), (21, .int .i64 k), (22, .int .i64 nv_3), (260, .bool false)] (by simp only [b147, Bool.not_true, Bool.not_false]) ?_
                  clear b147
                  refine S_condF (.tmp 260) morainelaw20_FrameLexical.k181 morainelaw20_FrameLexical.k182 (by kernel_rfl) (by kernel_rfl) ?_
                  refine S_skip (by kernel_rfl) ?_
                  refine S_blockEnd ?_
                  refine S_then ?_
                  refine S_region 50 (Code.ops morainelaw20_FrameLexical.k175) (by kernel_rfl) ?_
                  refine N_run 3 [(3, .pointer ra), (5, .slice (some allBA_4) allN allC), (19, .int .i64 i_2), (20, .int .i64 upv_2), (21, .int .i64 k), (22, .int .i64 (IntKind.wrap .i64 (nv_3 + 1)))] (fun w => by kernel_rfl) ?_
                  refine N_end (by kernel_rfl) ?_
                  refine S_then ?_
                  exact S_round ((IntKind.wrap .i64 (nv_3 + 1)) : Int) (sb (by kernel_rfl)) h
                · rw [if_neg c146] at h
                  have b147 : (ra_3 != x_20) = true := bne_iff_ne.mpr c146
                  refine S_env [(3, .pointer ra), (5, .slice (some allBA_4) allN allC), (19, .int .i64 i_2), (20, .int .i64 upv_2), (21, .int .i64 k), (22, .int .i64 nv_3), (260, .bool true)] (by simp only [b147, Bool.not_true, Bool.not_false]) ?_
                  clear b147
                  refine S_condT (.tmp 260) morainelaw20_FrameLexical.k181 morainelaw20_FrameLexical.k182 (by kernel_rfl) (by kernel_rfl) ?_
                  refine S_seq morainelaw20_FrameLexical.k183 morainelaw20_FrameLexical.k184 (by kernel_rfl) ?_
                  refine S_region 53 (Code.ops morainelaw20_FrameLexical.k183) (by kernel_rfl) ?_
                  refine N_run 1 [(2, .bool false)] (fun w => by kernel_rfl) ?_
                  refine N_end (by kernel_rfl) ?_
                  refine S_then ?_
                  refine S_ret (by kernel_rfl) ?_
                  show At _ _ _ _ (Q .ret)
                  exact S_done (fn := Try.f5) [.bool false] hQ (show ResOK _ _ _ [.tmp 2] _ from .tmp (by kernel_rfl) (.nil)) h
              · rw [if_neg c140] at h
                have b141 : (rb_3 != 0) = true := bne_iff_ne.mpr c140
                refine N_env [(3, .pointer ra), (5, .slice (some allBA_4) allN allC), (19, .int .i64 i_2), (20, .int .i64 upv_2), (21, .int .i64 k), (22, .int .i64 nv_3), (23, .int .u64 ra_3), (249, .bool true)] (by simp only [b141, Bool.not_true, Bool.not_false]) ?_
                clear b141
                refine N_run 11 [(3, .pointer ra), (5, .slice (some allBA_4) allN allC), (19, .int .i64 i_2), (20, .int .i64 upv_2), (21, .int .i64 k), (22, .int .i64 nv_3), (260, .bool true)] (fun w => by kernel_rfl) ?_
                refine N_end (by kernel_rfl) ?_
                refine S_then ?_
                refine S_condT (.tmp 260) morainelaw20_FrameLexical.k181 morainelaw20_FrameLexical.k182 (by kernel_rfl) (by kernel_rfl) ?_
                refine S_seq morainelaw20_FrameLexical.k183 morainelaw20_FrameLexical.k184 (by kernel_rfl) ?_
                refine S_region 53 (Code.ops morainelaw20_FrameLexical.k183) (by kernel_rfl) ?_
                refine N_run 1 [(2, .bool false)] (fun w => by kernel_rfl) ?_
                refine N_end (by kernel_rfl) ?_
                refine S_then ?_
                refine S_ret (by kernel_rfl) ?_
                show At _ _ _ _ (Q .ret)
                exact S_done (fn := Try.f5) [.bool false] hQ (show ResOK _ _ _ [.tmp 2] _ from .tmp (by kernel_rfl) (.nil)) h
            · rw [if_neg c136] at h
              have b137 : (decide (nv_3 < (xN_9 : Int))) = false := decide_eq_false c136
              refine S_env [(3, .pointer ra), (5, .slice (some allBA_4) allN allC), (19, .int .i64 i_2), (20, .int .i64 upv_2), (21, .int .i64 k), (22, .int .i64 nv_3), (232, .bool false)] (by simp only [b137, Bool.not_true, Bool.not_false]) ?_
              clear b137
              refine S_condF (.tmp 232) morainelaw20_FrameLexical.k172 morainelaw20_FrameLexical.k173 (by kernel_rfl) (by kernel_rfl) ?_
              refine S_exit 10 (by kernel_rfl) ?_
              refine S_exitThen ?_
              refine S_exitThen ?_
              refine S_exitHere ?_
              refine S_then ?_
              refine S_seq morainelaw20_FrameLexical.k185 morainelaw20_FrameLexical.k186 (by kernel_rfl) ?_
              refine S_seq morainelaw20_FrameLexical.k187 morainelaw20_FrameLexical.k188 (by kernel_rfl) ?_
              obtain ⟨q148, h⟩ := h
              obtain ⟨x_21, q149, h⟩ := h
              obtain ⟨q150, h⟩ := h
              obtain ⟨xB_11, xN_11, xC_11, q151, h⟩ := h
              refine S_regionG 54 (Code.ops morainelaw20_FrameLexical.k187) [(13, (allBA_4.add (Int.toNat i_2 * 3)), [.int .u64 x_21]), (13, ((allBA_4.add (Int.toNat k * 3)).add 2), [.slice xB_11 xN_11 xC_11])] 19 #[false, false, false, false, false, false, false, false, false, false, false, false, false, false, false, false, false, false, false] (by kernel_rfl) (by kernel_rfl) (by kernel_rfl) (by kernel_rfl) (by kernel_rfl) (show FactsAt _ _ _ from ⟨⟨q149, trivial⟩, ⟨q151, trivial⟩, trivial⟩) ?_
              refine G_take 0 (some 262) (.pointer ra) #[true, false, false, false, false, false, false, false, false, false, false, false, false, false, false, false, false, false, false] [(3, .pointer ra), (5, .slice (some allBA_4) allN allC), (19, .int .i64 i_2), (20, .int .i64 upv_2), (21, .int .i64 k), (262, .pointer ra)] ((pure (.value (.pointer ra)) : Sem Next)) (fun w => by kernel_rfl) (fun _ _ _ _ _ => rfl) (by kernel_rfl) (by kernel_rfl) (by kernel_rfl) (by kernel_rfl) (by kernel_rfl) (ps (by kernel_rfl)) ?_
              refine G_take 1 (some 263) (.slice (some allBA_4) allN allC) #[true, true, false, false, false, false, false, false, false, false, false, false, false, false, false, false, false, false, false] [(3, .pointer ra), (5, .slice (some allBA_4) allN allC), (19, .int .i64 i_2), (20, .int .i64 upv_2), (21, .int .i64 k), (262, .pointer ra), (263, .slice (some allBA_4) allN allC)] ((pure (.value (.slice (some allBA_4) allN allC)) : Sem Next)) (fun w => by kernel_rfl) (fun _ _ _ _ _ => rfl) (by kernel_rfl) (by kernel_rfl) (by kernel_rfl) (by kernel_rfl) (by kernel_rfl) (ps (by kernel_rfl)) ?_
              refine G_take 2 (some 264) (.int .i64 i_2) #[true, true, true, false, false, false, false, false, false, false, false, false, false, false, false, false, false, false, false] [(3, .pointer ra), (5, .slice (some allBA_4) allN allC), (19, .int .i64 i_2), (20, .int .i64 upv_2), (21, .int .i64 k), (262, .pointer ra), (263, .slice (some allBA_4) allN allC), (264, .int .i64 i_2)] ((pure (.value (.int .i64 i_2)) : Sem Next)) (fun w => by kernel_rfl) (fun _ _ _ _ _ => rfl) (by kernel_rfl) (by kernel_rfl) (by kernel_rfl) (by kernel_rfl) (by kernel_rfl) (ps (by kernel_rfl)) ?_
              refine G_take 3 (some 265) (.pointer (some (allBA_4.add (Int.toNat i_2 * 3)))) #[true, true, true, true, false, false, false, false, false, false, false, false, false, false, false, false, false, false, false] [(3, .pointer ra), (5, .slice (some allBA_4) allN allC), (19, .int .i64 i_2), (20, .int .i64 upv_2), (21, .int .i64 k), (262, .pointer ra), (265, .pointer (some (allBA_4.add (Int.toNat i_2 * 3))))] (indexAtN 48 (.slice (some allBA_4) allN allC) (.int .i64 i_2)) (fun w => by kernel_rfl) (fun _ w _ _ _ => indexAt_run (P := Try.prog) (t := 48) (elem := 52) (sz := 3) (a := allBA_4) (len := allN) (cap := allC) (k := .i64) (i := i_2) Try.underlying48 (fun w => by kernel_rfl) q148.1 q148.2 w) (by kernel_rfl) (by kernel_rfl) (by kernel_rfl) (by kernel_rfl) (by kernel_rfl) (ps (by kernel_rfl)) ?_
              refine G_take 4 (some 266) (.pointer (some (allBA_4.add (Int.toNat i_2 * 3)))) #[true, true, true, true, true, false, false, false, false, false, false, false, false, false, false, false, false, false, false] [(3, .pointer ra), (5, .slice (some allBA_4) allN allC), (19, .int .i64 i_2), (20, .int .i64 upv_2), (21, .int .i64 k), (262, .pointer ra), (266, .pointer (some (allBA_4.add (Int.toNat i_2 * 3))))] ((pure (.value (.pointer (some (allBA_4.add (Int.toNat i_2 * 3))))) : Sem Next)) (fun w => by kernel_rfl) (fun _ _ _ _ _ => rfl) (by kernel_rfl) (by kernel_rfl) (by kernel_rfl) (by kernel_rfl) (by kernel_rfl) (ps (by kernel_rfl)) ?_
              refine G_take 5 (some 267) (.int .u64 x_21) #[true, true, true, true, true, true, false, false, false, false, false, false, false, false, false, false, false, false, false] [(3, .pointer ra), (5, .slice (some allBA_4) allN allC), (19, .int .i64 i_2), (20, .int .i64 upv_2), (21, .int .i64 k), (262, .pointer ra), (267, .int .u64 x_21)] (loadN 29 (.pointer (some (allBA_4.add (Int.toNat i_2 * 3))))) (fun w => by kernel_rfl) (held_one 13 (fun w => by kernel_rfl) (List.Mem.head _) (.inl (by kernel_rfl))) (by kernel_rfl) (by kernel_rfl) (by kernel_rfl) (by kernel_rfl) (by kernel_rfl) (ps (by kernel_rfl)) ?_
              refine G_take 6 (some 268) (.int .i64 upv_2) #[true, true, true, true, true, true, true, false, false, false, false, false, false, false, false, false, false, false, false] [(3, .pointer ra), (5, .slice (some allBA_4) allN allC), (19, .int .i64 i_2), (20, .int .i64 upv_2), (21, .int .i64 k), (262, .pointer ra), (267, .int .u64 x_21), (268, .int .i64 upv_2)] ((pure (.value (.int .i64 upv_2)) : Sem Next)) (fun w => by kernel_rfl) (fun _ _ _ _ _ => rfl) (by kernel_rfl) (by kernel_rfl) (by kernel_rfl) (by kernel_rfl) (by kernel_rfl) (ps (by kernel_rfl)) ?_
              refine G_take 7 (some 269) (.slice (some allBA_4) allN allC) #[true, true, true, true, true, true, true, true, false, false, false, false, false, false, false, false, false, false, false] [(3, .pointer ra), (5, .slice (some allBA_4) allN allC), (19, .int .i64 i_2), (20, .int .i64 upv_2), (21, .int .i64 k), (262, .pointer ra), (267, .int .u64 x_21), (268, .int .i64 upv_2), (269, .slice (some allBA_4) allN allC)] ((pure (.value (.slice (some allBA_4) allN allC)) : Sem Next)) (fun w => by kernel_rfl) (fun _ _ _ _ _ => rfl) (by kernel_rfl) (by kernel_rfl) (by kernel_rfl) (by kernel_rfl) (by kernel_rfl) (ps (by kernel_rfl)) ?_
              refine G_take 8 (some 270) (.int .i64 k) #[true, true, true, true, true, true, true, true, true, false, false, false, false, false, false, false, false, false, false] [(3, .pointer ra), (5, .slice (some allBA_4) allN allC), (19, .int .i64 i_2), (20, .int .i64 upv_2), (21, .int .i64 k), (262, .pointer ra), (267, .int .u64 x_21), (268, .int .i64 upv_2), (269, .slice (some allBA_4) allN allC), (270, .int .i64 k)] ((pure (.value (.int .i64 k)) : Sem Next)) (fun w => by kernel_rfl) (fun _ _ _ _ _ => rfl) (by kernel_rfl) (by kernel_rfl) (by kernel_rfl) (by kernel_rfl) (by kernel_rfl) (ps (by kernel_rfl)) ?_
              refine G_take 9 (some 271) (.pointer (some (allBA_4.add (Int.toNat k * 3)))) #[true, true, true, true, true, true, true, true, true, true, false, false, false, false, false, false, false, false, false] [(3, .pointer ra), (5, .slice (some allBA_4) allN allC), (19, .int .i64 i_2), (20, .int .i64 upv_2), (21, .int .i64 k), (262, .pointer ra), (267, .int .u64 x_21), (268, .int .i64 upv_2), (271, .pointer (some (allBA_4.add (Int.toNat k * 3))))] (indexAtN 48 (.slice (some allBA_4) allN allC) (.int .i64 k)) (fun w => by kernel_rfl) (fun _ w _ _ _ => indexAt_run (P := Try.prog) (t := 48) (elem := 52) (sz := 3) (a := allBA_4) (len := allN) (cap := allC) (k := .i64) (i := k) Try.underlying48 (fun w => by kernel_rfl) q150.1 q150.2 w) (by kernel_rfl) (by kernel_rfl) (by kernel_rfl) (by kernel_rfl) (by kernel_rfl) (ps (by kernel_rfl)) ?_
              refine G_take 10 (some 272) (.pointer (some ((allBA_4.add (Int.toNat k * 3)).add 2))) #[true, true, true, true, true, true, true, true, true, true, true, false, false, false, false, false, false, false, false] [(3, .pointer ra), (5, .slice (some allBA_4) allN allC), (19, .int .i64 i_2), (20, .int .i64 upv_2), (21, .int .i64 k), (262, .pointer ra), (267, .int .u64 x_21), (268, .int .i64 upv_2), (272, .pointer (some ((allBA_4.add (Int.toNat k * 3)).add 2)))] ((pure (.value (.pointer (some ((allBA_4.add (Int.toNat k * 3)).add 2)))) : Sem Next)) (fun w => by kernel_rfl) (fun _ _ _ _ _ => rfl) (by kernel_rfl) (by kernel_rfl) (by kernel_rfl) (by kernel_rfl) (by kernel_rfl) (ps (by kernel_rfl)) ?_
              refine G_take 11 (some 273) (.slice xB_11 xN_11 xC_11) #[true, true, true, true, true, true, true, true, true, true, true, true, false, false, false, false, false, false, false] [(3, .pointer ra), (5, .slice (some allBA_4) allN allC), (19, .int .i64 i_2), (20, .int .i64 upv_2), (21, .int .i64 k), (262, .pointer ra), (267, .int .u64 x_21), (268, .int .i64 upv_2), (273, .slice xB_11 xN_11 xC_11)] (loadN 39 (.pointer (some ((allBA_4.add (Int.toNat k * 3)).add 2)))) (fun w => by kernel_rfl) (held_one 13 (fun w => by kernel_rfl) (List.Mem.tail _ (List.Mem.head _)) (.inl (by kernel_rfl))) (by kernel_rfl) (by kernel_rfl) (by kernel_rfl) (by kernel_rfl) (by kernel_rfl) (ps (by kernel_rfl)) ?_
              refine G_take 12 (some 274) (.int .i64 (xN_11 : Int)) #[true, true, true, true, true, true, true, true, true, true, true, true, true, false, false, false, false, false, false] [(3, .pointer ra), (5, .slice (some allBA_4) allN allC), (19, .int .i64 i_2), (20, .int .i64 upv_2), (21, .int .i64 k), (262, .pointer ra), (267, .int .u64 x_21), (268, .int .i64 upv_2), (274, .int .i64 (xN_11 : Int))] ((pure (.value (.int .i64 (xN_11 : Int))) : Sem Next)) (fun w => by kernel_rfl) (fun _ _ _ _ _ => rfl) (by kernel_rfl) (by kernel_rfl) (by kernel_rfl) (by kernel_rfl) (by kernel_rfl) (ps (by kernel_rfl)) ?_
              refine G_call 13 (some 275) #[true, true, true, true, true, true, true, true, true, true, true, true, true, true, false, false, false, false, false] 21 #[.pointer ra, .int .u64 x_21, .int .i64 upv_2, .int .i64 (xN_11 : Int)] (by kernel_rfl) (fun w => by kernel_rfl) h (by kernel_rfl) ?_; clear h
              rintro v_7 H32 ⟨ra_4, rb_4, rfl, h⟩
              refine ⟨[(3, .pointer ra), (5, .slice (some allBA_4) allN allC), (19, .int .i64 i_2), (20, .int .i64 upv_2), (21, .int .i64 k), (275, .tuple #[.int .u64 ra_4, .int .i64 rb_4])], ps (by kernel_rfl), (show FactsAt _ _ _ from ⟨trivial, trivial, trivial⟩), ?_⟩
              refine G_take 14 (some 261) (.tuple #[.int .u64 ra_4, .int .i64 rb_4]) #[true, true, true, true, true, true, true, true, true, true, true, true, true, true, true, false, false, false, false] [(3, .pointer ra), (5, .slice (some allBA_4) allN allC), (19, .int .i64 i_2), (20, .int .i64 upv_2), (21, .int .i64 k), (261, .tuple #[.int .u64 ra_4, .int .i64 rb_4])] (pure (.value (.tuple #[.int .u64 ra_4, .int .i64 rb_4])) : Sem Next) (fun w => by kernel_rfl) (fun _ _ _ _ _ => rfl) (by kernel_rfl) (by kernel_rfl) (by kernel_rfl) (by kernel_rfl) (by kernel_rfl) (ps (by kernel_rfl)) ?_
              refine G_take 15 (some 276) (.int .u64 ra_4) #[true, true, true, true, true, true, true, true, true, true, true, true, true, true, true, true, false, false, false] [(3, .pointer ra), (5, .slice (some allBA_4) allN allC), (19, .int .i64 i_2), (20, .int .i64 upv_2), (21, .int .i64 k), (261, .tuple #[.int .u64 ra_4, .int .i64 rb_4]), (276, .int .u64 ra_4)] (pure (.value (.int .u64 ra_4)) : Sem Next) (fun w => by kernel_rfl) (fun _ _ _ _ _ => rfl) (by kernel_rfl) (by kernel_rfl) (by kernel_rfl) (by kernel_rfl) (by kernel_rfl) (ps (by kernel_rfl)) ?_
              refine G_take 16 (some 277) (.int .i64 rb_4) #[true, true, true, true, true, true, true, true, true, true, true, true, true, true, true, true, true, false, false] [(3, .pointer ra), (5, .slice (some allBA_4) allN allC), (19, .int .i64 i_2), (20, .int .i64 upv_2), (21, .int .i64 k), (276, .int .u64 ra_4), (277, .int .i64 rb_4)] (pure (.value (.int .i64 rb_4)) : Sem Next) (fun w => by kernel_rfl) (fun _ _ _ _ _ => rfl) (by kernel_rfl) (by kernel_rfl) (by kernel_rfl) (by kernel_rfl) (by kernel_rfl) (ps (by kernel_rfl)) ?_
              refine G_take 17 (some 25) (.int .u64 ra_4) #[true, true, true, true, true, true, true, true, true, true, true, true, true, true, true, true, true, true, false] [(3, .pointer ra), (5, .slice (some allBA_4) allN allC), (19, .int .i64 i_2), (20, .int .i64 upv_2), (21, .int .i64 k), (277, .int .i64 rb_4)] (pure (.value (.int .u64 ra_4)) : Sem Next) (fun w => by kernel_rfl) (fun _ _ _ _ _ => rfl) (by kernel_rfl) (by kernel_rfl) (by kernel_rfl) (by kernel_rfl) (by kernel_rfl) (ps (by kernel_rfl)) ?_
              refine G_take 18 (some 26) (.int .i64 rb_4) #[true, true, true, true, true, true, true, true, true, true, true, true, true, true, true, true, true, true, true] [(3, .pointer ra), (5, .slice (some allBA_4) allN allC), (19, .int .i64 i_2), (20, .int .i64 upv_2), (21, .int .i64 k), (26, .int .i64 rb_4)] (pure (.value (.int .i64 rb_4)) : Sem Next) (fun w => by kernel_rfl) (fun _ _ _ _ _ => rfl) (by kernel_rfl) (by kernel_rfl) (by kernel_rfl) (by kernel_rfl) (by kernel_rfl) (ps (by kernel_rfl)) ?_
              refine G_sub [(3, .pointer ra), (5, .slice (some allBA_4) allN allC), (19, .int .i64 i_2), (20, .int .i64 upv_2), (21, .int .i64 k), (26, .int .i64 rb_4)] (sb (by kernel_rfl)) ?_
              refine G_end (by kernel_rfl) ?_
              refine S_then ?_
              refine S_seq morainelaw20_FrameLexical.k189 morainelaw20_FrameLexical.k190 (by kernel_rfl) ?_
              refine S_region 55 (Code.ops morainelaw20_FrameLexical.k189) (by kernel_rfl) ?_
              refine N_run 2 [(3, .pointer ra), (5, .slice (some allBA_4) allN allC), (19, .int .i64 i_2), (20, .int .i64 upv_2), (21, .int .i64 k), (279, .bool (rb_4 != 4))] (fun w => by kernel_rfl) ?_
              refine N_end (by kernel_rfl) ?_
              refine S_then ?_
              by_cases c152 : rb_4 = 4
              · rw [if_pos c152] at h
                have b153 : (rb_4 != 4) = false := bne_eq_false_iff_eq.mpr c152
                refine S_env [(3, .pointer ra), (5, .slice (some allBA_4) allN allC), (19, .int .i64 i_2), (20, .int .i64 upv_2), (21, .int .i64 k), (279, .bool false)] (by simp only [b153, Bool.not_true, Bool.not_false]) ?_
                clear b153
                refine S_condF (.tmp 279) morainelaw20_FrameLexical.k191 morainelaw20_FrameLexical.k192 (by kernel_rfl) (by kernel_rfl) ?_
                refine S_skip (by kernel_rfl) ?_
                refine S_then ?_
                refine S_region 57 (Code.ops morainelaw20_FrameLexical.k186) (by kernel_rfl) ?_
                refine N_run 3 [(3, .pointer ra), (5, .slice (some allBA_4) allN allC), (19, .int .i64 i_2), (20, .int .i64 (IntKind.wrap .i64 (upv_2 + 1))), (21, .int .i64 k)] (fun w => by kernel_rfl) ?_
                refine N_end (by kernel_rfl) ?_
                refine S_blockEnd ?_
                refine S_then ?_
                refine S_region 47 (Code.ops morainelaw20_FrameLexical.k160) (by kernel_rfl) ?_
                refine N_run 2 [(3, .pointer ra), (5, .slice (some allBA_4) allN allC), (19, .int .i64 i_2), (20, .int .i64 (IntKind.wrap .i64 (upv_2 + 1))), (220, .slice (some allBA_4) allN allC), (221, .int .i64 k)] (fun w => by kernel_rfl) ?_
                obtain ⟨q154, h⟩ := h
                refine N_val (some 222) (indexAtN 48 (.slice (some allBA_4) allN allC) (.int .i64 k)) (.pointer (some (allBA_4.add (Int.toNat k * 3)))) (fun w => by kernel_rfl) (fun w _ => indexAt_run (P := Try.prog) (t := 48) (elem := 52) (sz := 3) (a := allBA_4) (len := allN) (cap := allC) (k := .i64) (i := k) Try.underlying48 (fun w => by kernel_rfl) q154.1 q154.2 w) [(3, .pointer ra), (5, .slice (some allBA_4) allN allC), (19, .int .i64 i_2), (20, .int .i64 (IntKind.wrap .i64 (upv_2 + 1))), (222, .pointer (some (allBA_4.add (Int.toNat k * 3))))] (ps (by kernel_rfl)) ?_
                refine N_run 1 [(3, .pointer ra), (5, .slice (some allBA_4) allN allC), (19, .int .i64 i_2), (20, .int .i64 (IntKind.wrap .i64 (upv_2 + 1))), (223, .pointer (some ((allBA_4.add (Int.toNat k * 3)).add 1)))] (fun w => by kernel_rfl) ?_
                obtain ⟨x_22, q155, h⟩ := h
                refine N_val (some 224) (loadN 3 (.pointer (some ((allBA_4.add (Int.toNat k * 3)).add 1)))) (.int .i64 x_22) (fun w => by kernel_rfl) (loadN_run (loadOK_one (fun w => by kernel_rfl) q155)) [(3, .pointer ra), (5, .slice (some allBA_4) allN allC), (19, .int .i64 i_2), (20, .int .i64 (IntKind.wrap .i64 (upv_2 + 1))), (224, .int .i64 x_22)] (ps (by kernel_rfl)) ?_
                refine N_run 1 [(3, .pointer ra), (5, .slice (some allBA_4) allN allC), (19, .int .i64 i_2), (20, .int .i64 (IntKind.wrap .i64 (upv_2 + 1))), (21, .int .i64 x_22)] (fun w => by kernel_rfl) ?_
                refine N_end (by kernel_rfl) ?_
                refine S_then ?_
                exact S_round (((IntKind.wrap .i64 (upv_2 + 1)), x_22) : Int × Int) (sb (by kernel_rfl)) h
              · rw [if_neg c152] at h
                have b153 : (rb_4 != 4) = true := bne_iff_ne.mpr c152
                refine S_env [(3, .pointer ra), (5, .slice (some allBA_4) allN allC), (19, .int .i64 i_2), (20, .int .i64 upv_2), (21, .int .i64 k), (279, .bool true)] (by simp only [b153, Bool.not_true, Bool.not_false]) ?_
                clear b153
                refine S_condT (.tmp 279) morainelaw20_FrameLexical.k191 morainelaw20_FrameLexical.k192 (by kernel_rfl) (by kernel_rfl) ?_
                refine S_seq morainelaw20_FrameLexical.k193 morainelaw20_FrameLexical.k194 (by kernel_rfl) ?_
                refine S_region 56 (Code.ops morainelaw20_FrameLexical.k193) (by kernel_rfl) ?_
                refine N_run 1 [(2, .bool false)] (fun w => by kernel_rfl) ?_
                refine N_end (by kernel_rfl) ?_
                refine S_then ?_
                refine S_ret (by kernel_rfl) ?_
                show At _ _ _ _ (Q .ret)
                exact S_done (fn := Try.f5) [.bool false] hQ (show ResOK _ _ _ [.tmp 2] _ from .tmp (by kernel_rfl) (.nil)) h
          · rw [if_neg c129] at h
            have b130 : (decide (k ≥ 0)) = false := decide_eq_false c129
            refine S_env [(3, .pointer ra), (5, .slice allB allN allC), (19, .int .i64 i_2), (20, .int .i64 upv_2), (21, .int .i64 k), (219, .bool false)] (by simp only [b130, Bool.not_true, Bool.not_false]) ?_
            clear b130
            refine S_condF (.tmp 219) morainelaw20_FrameLexical.k157 morainelaw20_FrameLexical.k158 (by kernel_rfl) (by kernel_rfl) ?_
            refine S_exit 8 (by kernel_rfl) ?_
            refine S_exitThen ?_
            refine S_exitThen ?_
            refine S_exitHere ?_
            refine S_then ?_
            refine S_seq morainelaw20_FrameLexical.k195 morainelaw20_FrameLexical.k196 (by kernel_rfl) ?_
            refine S_region 58 (Code.ops morainelaw20_FrameLexical.k195) (by kernel_rfl) ?_
            refine N_run 3 [(3, .pointer ra), (5, .slice allB allN allC), (19, .int .i64 i_2), (20, .int .i64 upv_2), (283, .pointer ra), (284, .slice allB allN allC), (285, .int .i64 i_2)] (fun w => by kernel_rfl) ?_
            obtain ⟨allBA_5, rfl, h⟩ := h
            obtain ⟨q156, h⟩ := h
            refine N_val (some 286) (indexAtN 48 (.slice (some allBA_5) allN allC) (.int .i64 i_2)) (.pointer (some (allBA_5.add (Int.toNat i_2 * 3)))) (fun w => by kernel_rfl) (fun w _ => indexAt_run (P := Try.prog) (t := 48) (elem := 52) (sz := 3) (a := allBA_5) (len := allN) (cap := allC) (k := .i64) (i := i_2) Try.underlying48 (fun w => by kernel_rfl) q156.1 q156.2 w) [(3, .pointer ra), (5, .slice (some allBA_5) allN allC), (19, .int .i64 i_2), (20, .int .i64 upv_2), (283, .pointer ra), (286, .pointer (some (allBA_5.add (Int.toNat i_2 * 3))))] (ps (by kernel_rfl)) ?_
            refine N_run 1 [(3, .pointer ra), (5, .slice (some allBA_5) allN allC), (19, .int .i64 i_2), (20, .int .i64 upv_2), (283, .pointer ra), (287, .pointer (some (allBA_5.add (Int.toNat i_2 * 3))))] (fun w => by kernel_rfl) ?_
            obtain ⟨x_23, q157, h⟩ := h
            refine N_val (some 288) (loadN 29 (.pointer (some (allBA_5.add (Int.toNat i_2 * 3))))) (.int .u64 x_23) (fun w => by kernel_rfl) (loadN_run (loadOK_one (fun w => by kernel_rfl) q157)) [(3, .pointer ra), (5, .slice (some allBA_5) allN allC), (19, .int .i64 i_2), (20, .int .i64 upv_2), (283, .pointer ra), (288, .int .u64 x_23)] (ps (by kernel_rfl)) ?_
            refine N_run 1 [(3, .pointer ra), (5, .slice (some allBA_5) allN allC), (19, .int .i64 i_2), (283, .pointer ra), (288, .int .u64 x_23), (289, .int .i64 upv_2)] (fun w => by kernel_rfl) ?_
            refine N_call (some 290) 21 #[.pointer ra, .int .u64 x_23, .int .i64 upv_2, .int .i64 0] (fun w => by kernel_rfl) h ?_; clear h
            rintro v_8 H33 ⟨ra_5, rb_5, rfl, h⟩
            refine ⟨[(3, .pointer ra), (5, .slice (some allBA_5) allN allC), (19, .int .i64 i_2), (290, .tuple #[.int .u64 ra_5, .int .i64 rb_5])], ps (by kernel_rfl), ?_⟩
            refine N_run 5 [(3, .pointer ra), (5, .slice (some allBA_5) allN allC), (19, .int .i64 i_2), (28, .int .i64 rb_5)] (fun w => by kernel_rfl) ?_
            refine N_end (by kernel_rfl) ?_
            refine S_then ?_
            refine S_seq morainelaw20_FrameLexical.k197 morainelaw20_FrameLexical.k198 (by kernel_rfl) ?_
            by_cases c158 : rb_5 = 3
            · rw [if_pos c158] at h
              have b159 : (rb_5 != 3) = false := bne_eq_false_iff_eq.mpr c158
              obtain ⟨q160, h⟩ := h
              obtain ⟨x_24, q161, h⟩ := h
              obtain ⟨q162, h⟩ := h
              obtain ⟨xB_12, xN_12, xC_12, q163, h⟩ := h
              refine S_regionG 59 (Code.ops morainelaw20_FrameLexical.k197) [(9, (allBA_5.add (Int.toNat i_2 * 3)), [.int .u64 x_24]), (18, ((allBA_5.add (Int.toNat i_2 * 3)).add 2), [.slice xB_12 xN_12 xC_12])] 18 #[false, false, false, false, false, false, false, false, false, false, false, false, false, false, false, false, false, false] (by kernel_rfl) (by kernel_rfl) (by kernel_rfl) (by kernel_rfl) (by kernel_rfl) (show FactsAt _ _ _ from ⟨⟨q161, trivial⟩, ⟨q163, trivial⟩, trivial⟩) ?_
              refine G_take 0 (some 293) (.int .i64 rb_5) #[true, false, false, false, false, false, false, false, false, false, false, false, false, false, false, false, false, false] [(3, .pointer ra), (5, .slice (some allBA_5) allN allC), (19, .int .i64 i_2), (293, .int .i64 rb_5)] ((pure (.value (.int .i64 rb_5)) : Sem Next)) (fun w => by kernel_rfl) (fun _ _ _ _ _ => rfl) (by kernel_rfl) (by kernel_rfl) (by kernel_rfl) (by kernel_rfl) (by kernel_rfl) (ps (by kernel_rfl)) ?_
              refine G_take 1 (some 294) (.bool (rb_5 != 3)) #[true, true, false, false, false, false, false, false, false, false, false, false, false, false, false, false, false, false] [(3, .pointer ra), (5, .slice (some allBA_5) allN allC), (19, .int .i64 i_2), (294, .bool (rb_5 != 3))] ((pure (.value (.bool (rb_5 != 3))) : Sem Next)) (fun w => by kernel_rfl) (fun _ _ _ _ _ => rfl) (by kernel_rfl) (by kernel_rfl) (by kernel_rfl) (by kernel_rfl) (by kernel_rfl) (ps (by kernel_rfl)) ?_
              refine G_take 2 (some 295) (.bool (rb_5 != 3)) #[true, true, true, false, false, false, false, false, false, false, false, false, false, false, false, false, false, false] [(3, .pointer ra), (5, .slice (some allBA_5) allN allC), (19, .int .i64 i_2), (295, .bool (rb_5 != 3))] ((pure (.value (.bool (rb_5 != 3))) : Sem Next)) (fun w => by kernel_rfl) (fun _ _ _ _ _ => rfl) (by kernel_rfl) (by kernel_rfl) (by kernel_rfl) (by kernel_rfl) (by kernel_rfl) (ps (by kernel_rfl)) ?_
              refine G_env [(3, .pointer ra), (5, .slice (some allBA_5) allN allC), (19, .int .i64 i_2), (295, .bool false)] (by simp only [b159, Bool.not_true, Bool.not_false]) ?_
              refine G_take 3 (some 296) (.pointer ra) #[true, true, true, true, false, false, false, false, false, false, false, false, false, false, false, false, false, false] [(3, .pointer ra), (5, .slice (some allBA_5) allN allC), (19, .int .i64 i_2), (295, .bool false), (296, .pointer ra)] ((pure (.value (.pointer ra)) : Sem Next)) (fun w => by kernel_rfl) (fun _ _ _ _ _ => rfl) (by kernel_rfl) (by kernel_rfl) (by kernel_rfl) (by kernel_rfl) (by kernel_rfl) (ps (by kernel_rfl)) ?_
              refine G_take 4 (some 297) (.slice (some allBA_5) allN allC) #[true, true, true, true, true, false, false, false, false, false, false, false, false, false, false, false, false, false] [(3, .pointer ra), (5, .slice (some allBA_5) allN allC), (19, .int .i64 i_2), (295, .bool false), (296, .pointer ra), (297, .slice (some allBA_5) allN allC)] ((pure (.value (.slice (some allBA_5) allN allC)) : Sem Next)) (fun w => by kernel_rfl) (fun _ _ _ _ _ => rfl) (by kernel_rfl) (by kernel_rfl) (by kernel_rfl) (by kernel_rfl) (by kernel_rfl) (ps (by kernel_rfl)) ?_
              refine G_take 5 (some 298) (.int .i64 i_2) #[true, true, true, true, true, true, false, false, false, false, false, false, false, false, false, false, false, false] [(3, .pointer ra), (5, .slice (some allBA_5) allN allC), (19, .int .i64 i_2), (295, .bool false), (296, .pointer ra), (297, .slice (some allBA_5) allN allC), (298, .int .i64 i_2)] ((pure (.value (.int .i64 i_2)) : Sem Next)) (fun w => by kernel_rfl) (fun _ _ _ _ _ => rfl) (by kernel_rfl) (by kernel_rfl) (by kernel_rfl) (by kernel_rfl) (by kernel_rfl) (ps (by kernel_rfl)) ?_
              refine G_take 6 (some 299) (.pointer (some (allBA_5.add (Int.toNat i_2 * 3)))) #[true, true, true, true, true, true, true, false, false, false, false, false, false, false, false, false, false, false] [(3, .pointer ra), (5, .slice (some allBA_5) allN allC), (19, .int .i64 i_2), (295, .bool false), (296, .pointer ra), (299, .pointer (some (allBA_5.add (Int.toNat i_2 * 3))))] (indexAtN 48 (.slice (some allBA_5) allN allC) (.int .i64 i_2)) (fun w => by kernel_rfl) (fun _ w _ _ _ => indexAt_run (P := Try.prog) (t := 48) (elem := 52) (sz := 3) (a := allBA_5) (len := allN) (cap := allC) (k := .i64) (i := i_2) Try.underlying48 (fun w => by kernel_rfl) q160.1 q160.2 w) (by kernel_rfl) (by kernel_rfl) (by kernel_rfl) (by kernel_rfl) (by kernel_rfl) (ps (by kernel_rfl)) ?_
              refine G_take 7 (some 300) (.pointer (some (allBA_5.add (Int.toNat i_2 * 3)))) #[true, true, true, true, true, true, true, true, false, false, false, false, false, false, false, false, false, false] [(3, .pointer ra), (5, .slice (some allBA_5) allN allC), (19, .int .i64 i_2), (295, .bool false), (296, .pointer ra), (300, .pointer (some (allBA_5.add (Int.toNat i_2 * 3))))] ((pure (.value (.pointer (some (allBA_5.add (Int.toNat i_2 * 3))))) : Sem Next)) (fun w => by kernel_rfl) (fun _ _ _ _ _ => rfl) (by kernel_rfl) (by kernel_rfl) (by kernel_rfl) (by kernel_rfl) (by kernel_rfl) (ps (by kernel_rfl)) ?_
              refine G_take 8 (some 301) (.int .u64 x_24) #[true, true, true, true, true, true, true, true, true, false, false, false, false, false, false, false, false, false] [(3, .pointer ra), (5, .slice (some allBA_5) allN allC), (19, .int .i64 i_2), (295, .bool false), (296, .pointer ra), (301, .int .u64 x_24)] (loadN 29 (.pointer (some (allBA_5.add (Int.toNat i_2 * 3))))) (fun w => by kernel_rfl) (held_one 9 (fun w => by kernel_rfl) (List.Mem.head _) (.inl (by kernel_rfl))) (by kernel_rfl) (by kernel_rfl) (by kernel_rfl) (by kernel_rfl) (by kernel_rfl) (ps (by kernel_rfl)) ?_
              refine G_take 10 (some 303) (.slice (some allBA_5) allN allC) #[true, true, true, true, true, true, true, true, true, false, true, false, false, false, false, false, false, false] [(3, .pointer ra), (5, .slice (some allBA_5) allN allC), (19, .int .i64 i_2), (295, .bool false), (296, .pointer ra), (301, .int .u64 x_24), (303, .slice (some allBA_5) allN allC)] ((pure (.value (.slice (some allBA_5) allN allC)) : Sem Next)) (fun w => by kernel_rfl) (fun _ _ _ _ _ => rfl) (by kernel_rfl) (by kernel_rfl) (by kernel_rfl) (by kernel_rfl) (by kernel_rfl) (ps (by kernel_rfl)) ?_
              refine G_take 11 (some 304) (.int .i64 i_2) #[true, true, true, true, true, true, true, true, true, false, true, true, false, false, false, false, false, false] [(3, .pointer ra), (5, .slice (some allBA_5) allN allC), (19, .int .i64 i_2), (295, .bool false), (296, .pointer ra), (301, .int .u64 x_24), (303, .slice (some allBA_5) allN allC), (304, .int .i64 i_2)] ((pure (.value (.int .i64 i_2)) : Sem Next)) (fun w => by kernel_rfl) (fun _ _ _ _ _ => rfl) (by kernel_rfl) (by kernel_rfl) (by kernel_rfl) (by kernel_rfl) (by kernel_rfl) (ps (by kernel_rfl)) ?_
              refine G_take 12 (some 305) (.pointer (some (allBA_5.add (Int.toNat i_2 * 3)))) #[true, true, true, true, true, true, true, true, true, false, true, true, true, false, false, false, false, false] [(3, .pointer ra), (5, .slice (some allBA_5) allN allC), (19, .int .i64 i_2), (295, .bool false), (296, .pointer ra), (301, .int .u64 x_24), (305, .pointer (some (allBA_5.add (Int.toNat i_2 * 3))))] (indexAtN 48 (.slice (some allBA_5) allN allC) (.int .i64 i_2)) (fun w => by kernel_rfl) (fun _ w _ _ _ => indexAt_run (P := Try.prog) (t := 48) (elem := 52) (sz := 3) (a := allBA_5) (len := allN) (cap := allC) (k := .i64) (i := i_2) Try.underlying48 (fun w => by kernel_rfl) q162.1 q162.2 w) (by kernel_rfl) (by kernel_rfl) (by kernel_rfl) (by kernel_rfl) (by kernel_rfl) (ps (by kernel_rfl)) ?_
              refine G_take 13 (some 306) (.pointer (some ((allBA_5.add (Int.toNat i_2 * 3)).add 2))) #[true, true, true, true, true, true, true, true, true, false, true, true, true, true, false, false, false, false] [(3, .pointer ra), (5, .slice (some allBA_5) allN allC), (19, .int .i64 i_2), (295, .bool false), (296, .pointer ra), (301, .int .u64 x_24), (306, .pointer (some ((allBA_5.add (Int.toNat i_2 * 3)).add 2)))] ((pure (.value (.pointer (some ((allBA_5.add (Int.toNat i_2 * 3)).add 2)))) : Sem Next)) (fun w => by kernel_rfl) (fun _ _ _ _ _ => rfl) (by kernel_rfl) (by kernel_rfl) (by kernel_rfl) (by kernel_rfl) (by kernel_rfl) (ps (by kernel_rfl)) ?_
              refine G_take 14 (some 307) (.slice xB_12 xN_12 xC_12) #[true, true, true, true, true, true, true, true, true, false, true, true, true, true, true, false, false, false] [(3, .pointer ra), (5, .slice (some allBA_5) allN allC), (19, .int .i64 i_2), (295, .bool false), (296, .pointer ra), (301, .int .u64 x_24), (307, .slice xB_12 xN_12 xC_12)] (loadN 39 (.pointer (some ((allBA_5.add (Int.toNat i_2 * 3)).add 2)))) (fun w => by kernel_rfl) (held_one 18 (fun w => by kernel_rfl) (List.Mem.tail _ (List.Mem.head _)) (.inr (by kernel_rfl))) (by kernel_rfl) (by kernel_rfl) (by kernel_rfl) (by kernel_rfl) (by kernel_rfl) (ps (by kernel_rfl)) ?_
              refine G_take 15 (some 308) (.int .i64 (xN_12 : Int)) #[true, true, true, true, true, true, true, true, true, false, true, true, true, true, true, true, false, false] [(3, .pointer ra), (5, .slice (some allBA_5) allN allC), (19, .int .i64 i_2), (295, .bool false), (296, .pointer ra), (301, .int .u64 x_24), (308, .int .i64 (xN_12 : Int))] ((pure (.value (.int .i64 (xN_12 : Int))) : Sem Next)) (fun w => by kernel_rfl) (fun _ _ _ _ _ => rfl) (by kernel_rfl) (by kernel_rfl) (by kernel_rfl) (by kernel_rfl) (by kernel_rfl) (ps (by kernel_rfl)) ?_
              refine G_call 9 (some 302) #[true, true, true, true, true, true, true, true, true, true, true, true, true, true, true, true, false, false] 22 #[.pointer ra, .int .u64 x_24] (by kernel_rfl) (fun w => by kernel_rfl) h (by kernel_rfl) ?_; clear h
              rintro v_9 H34 ⟨x_25, rfl, h⟩
              obtain ⟨f164, h⟩ := h
              refine ⟨[(3, .pointer ra), (5, .slice (some allBA_5) allN allC), (19, .int .i64 i_2), (295, .bool false), (302, .int .i64 x_25), (308, .int .i64 (xN_12 : Int))], ps (by kernel_rfl), (show FactsAt _ _ _ from ⟨trivial, f164, trivial⟩), ?_⟩
              refine G_take 16 (some 309) (.bool (x_25 != (xN_12 : Int))) #[true, true, true, true, true, true, true, true, true, true, true, true, true, true, true, true, true, false] [(3, .pointer ra), (5, .slice (some allBA_5) allN allC), (19, .int .i64 i_2), (295, .bool false), (309, .bool (x_25 != (xN_12 : Int)))] (pure (.value (.bool (x_25 != (xN_12 : Int)))) : Sem Next) (fun w => by kernel_rfl) (fun _ _ _ _ _ => rfl) (by kernel_rfl) (by kernel_rfl) (by kernel_rfl) (by kernel_rfl) (by kernel_rfl) (ps (by kernel_rfl)) ?_
              refine G_take 17 (some 310) (.bool (x_25 != (xN_12 : Int))) #[true, true, true, true, true, true, true, true, true, true, true, true, true, true, true, true, true, true] [(3, .pointer ra), (5, .slice (some allBA_5) allN allC), (19, .int .i64 i_2), (310, .bool (x_25 != (xN_12 : Int)))] (pure (.value (.bool (x_25 != (xN_12 : Int)))) : Sem Next) (fun w => by kernel_rfl) (fun _ _ _ _ _ => rfl) (by kernel_rfl) (by kernel_rfl) (by kernel_rfl) (by kernel_rfl) (by kernel_rfl) (ps (by kernel_rfl)) ?_
              refine G_sub [(3, .pointer ra), (5, .slice (some allBA_5) allN allC), (19, .int .i64 i_2), (310, .bool (x_25 != (xN_12 : Int)))] (sb (by kernel_rfl)) ?_
              refine G_end (by kernel_rfl) ?_
              refine S_then ?_
              by_cases c165 : x_25 = (xN_12 : Int)
              · rw [if_pos c165] at h
                have b166 : (x_25 != (xN_12 : Int)) = false := bne_eq_false_iff_eq.mpr c165
                refine S_env [(3, .pointer ra), (5, .slice (some allBA_5) allN allC), (19, .int .i64 i_2), (310, .bool false)] (by simp only [b166, Bool.not_true, Bool.not_false]) ?_
                clear b166
                refine S_condF (.tmp 310) morainelaw20_FrameLexical.k199 morainelaw20_FrameLexical.k200 (by kernel_rfl) (by kernel_rfl) ?_
                refine S_skip (by kernel_rfl) ?_
                refine S_blockEnd ?_
                refine S_then ?_
                refine S_region 43 (Code.ops morainelaw20_FrameLexical.k143) (by kernel_rfl) ?_
                refine N_run 3 [(3, .pointer ra), (5, .slice (some allBA_5) allN allC), (19, .int .i64 (IntKind.wrap .i64 (i_2 + 1)))] (fun w => by kernel_rfl) ?_
                refine N_end (by kernel_rfl) ?_
                refine S_then ?_
                exact S_round ((IntKind.wrap .i64 (i_2 + 1)) : Int) (sb (by kernel_rfl)) h
              · rw [if_neg c165] at h
                have b166 : (x_25 != (xN_12 : Int)) = true := bne_iff_ne.mpr c165
                refine S_env [(3, .pointer ra), (5, .slice (some allBA_5) allN allC), (19, .int .i64 i_2), (310, .bool true)] (by simp only [b166, Bool.not_true, Bool.not_false]) ?_
                clear b166
                refine S_condT (.tmp 310) morainelaw20_FrameLexical.k199 morainelaw20_FrameLexical.k200 (by kernel_rfl) (by kernel_rfl) ?_
                refine S_seq morainelaw20_FrameLexical.k201 morainelaw20_FrameLexical.k202 (by kernel_rfl) ?_
                refine S_region 60 (Code.ops morainelaw20_FrameLexical.k201) (by kernel_rfl) ?_
                refine N_run 1 [(2, .bool false)] (fun w => by kernel_rfl) ?_
                refine N_end (by kernel_rfl) ?_
                refine S_then ?_
                refine S_ret (by kernel_rfl) ?_
                show At _ _ _ _ (Q .ret)
                exact S_done (fn := Try.f5) [.bool false] hQ (show ResOK _ _ _ [.tmp 2] _ from .tmp (by kernel_rfl) (.nil)) h
            · rw [if_neg c158] at h
              have b159 : (rb_5 != 3) = true := bne_iff_ne.mpr c158
              refine S_regionG 59 (Code.ops morainelaw20_FrameLexical.k197) [] 18 #[false, false, false, false, false, false, false, false, false, false, false, false, false, false, false, false, false, false] (by kernel_rfl) (by kernel_rfl) (by kernel_rfl) (by kernel_rfl) (by kernel_rfl) (show FactsAt _ _ _ from trivial) ?_
              refine G_take 0 (some 293) (.int .i64 rb_5) #[true, false, false, false, false, false, false, false, false, false, false, false, false, false, false, false, false, false] [(3, .pointer ra), (5, .slice (some allBA_5) allN allC), (19, .int .i64 i_2), (293, .int .i64 rb_5)] ((pure (.value (.int .i64 rb_5)) : Sem Next)) (fun w => by kernel_rfl) (fun _ _ _ _ _ => rfl) (by kernel_rfl) (by kernel_rfl) (by kernel_rfl) (by kernel_rfl) (by kernel_rfl) (ps (by kernel_rfl)) ?_
              refine G_take 1 (some 294) (.bool (rb_5 != 3)) #[true, true, false, false, false, false, false, false, false, false, false, false, false, false, false, false, false, false] [(3, .pointer ra), (5, .slice (some allBA_5) allN allC), (19, .int .i64 i_2), (294, .bool (rb_5 != 3))] ((pure (.value (.bool (rb_5 != 3))) : Sem Next)) (fun w => by kernel_rfl) (fun _ _ _ _ _ => rfl) (by kernel_rfl) (by kernel_rfl) (by kernel_rfl) (by kernel_rfl) (by kernel_rfl) (ps (by kernel_rfl)) ?_
              refine G_take 2 (some 295) (.bool (rb_5 != 3)) #[true, true, true, false, false, false, false, false, false, false, false, false, false, false, false, false, false, false] [(3, .pointer ra), (5, .slice (some allBA_5) allN allC), (19, .int .i64 i_2), (295, .bool (rb_5 != 3))] ((pure (.value (.bool (rb_5 != 3))) : Sem Next)) (fun w => by kernel_rfl) (fun _ _ _ _ _ => rfl) (by kernel_rfl) (by kernel_rfl) (by kernel_rfl) (by kernel_rfl) (by kernel_rfl) (ps (by kernel_rfl)) ?_
              refine G_env [(3, .pointer ra), (5, .slice (some allBA_5) allN allC), (19, .int .i64 i_2), (295, .bool true)] (by simp only [b159, Bool.not_true, Bool.not_false]) ?_
              refine G_pass 3 (some 296) #[true, true, true, true, false, false, false, false, false, false, false, false, false, false, false, false, false, false] [(3, .pointer ra), (5, .slice (some allBA_5) allN allC), (19, .int .i64 i_2), (295, .bool true), (296, undef)] (by kernel_rfl) (by kernel_rfl) (by kernel_rfl) (by kernel_rfl) (by kernel_rfl) (by kernel_rfl) (ps (by kernel_rfl)) ?_
              refine G_pass 4 (some 297) #[true, true, true, true, true, false, false, false, false, false, false, false, false, false, false, false, false, false] [(3, .pointer ra), (5, .slice (some allBA_5) allN allC), (19, .int .i64 i_2), (295, .bool true), (296, undef), (297, undef)] (by kernel_rfl) (by kernel_rfl) (by kernel_rfl) (by kernel_rfl) (by kernel_rfl) (by kernel_rfl) (ps (by kernel_rfl)) ?_
              refine G_pass 5 (some 298) #[true, true, true, true, true, true, false, false, false, false, false, false, false, false, false, false, false, false] [(3, .pointer ra), (5, .slice (some allBA_5) allN allC), (19, .int .i64 i_2), (295, .bool true), (296, undef), (297, undef), (298, undef)] (by kernel_rfl) (by kernel_rfl) (by kernel_rfl) (by kernel_rfl) (by kernel_rfl) (by kernel_rfl) (ps (by kernel_rfl)) ?_
              refine G_pass 6 (some 299) #[true, true, true, true, true, true, true, false, false, false, false, false, false, false, false, false, false, false] [(3, .pointer ra), (5, .slice (some allBA_5) allN allC), (19, .int .i64 i_2), (295, .bool true), (296, undef), (299, undef)] (by kernel_rfl) (by kernel_rfl) (by kernel_rfl) (by kernel_rfl) (by kernel_rfl) (by kernel_rfl) (ps (by kernel_rfl)) ?_
              refine G_pass 7 (some 300) #[true, true, true, true, true, true, true, true, false, false, false, false, false, false, false, false, false, false] [(3, .pointer ra), (5, .slice (some allBA_5) allN allC), (19, .int .i64 i_2), (295, .bool true), (296, undef), (300, undef)] (by kernel_rfl) (by kernel_rfl) (by kernel_rfl) (by kernel_rfl) (by kernel_rfl) (by kernel_rfl) (ps (by kernel_rfl)) ?_
              refine G_pass 8 (some 301) #[true, true, true, true, true, true, true, true, true, false, false, false, false, false, false, false, false, false] [(3, .pointer ra), (5, .slice (some allBA_5) allN allC), (19, .int .i64 i_2), (295, .bool true), (296, undef), (301, undef)] (by kernel_rfl) (by kernel_rfl) (by kernel_rfl) (by kernel_rfl) (by kernel_rfl) (by kernel_rfl) (ps (by kernel_rfl)) ?_
              refine G_pass 9 (some 302) #[true, true, true, true, true, true, true, true, true, true, false, false, false, false, false, false, false, false] [(3, .pointer ra), (5, .slice (some allBA_5) allN allC), (19, .int .i64 i_2), (295, .bool true), (302, undef)] (by kernel_rfl) (by kernel_rfl) (by kernel_rfl) (by kernel_rfl) (by kernel_rfl) (by kernel_rfl) (ps (by kernel_rfl)) ?_
              refine G_pass 10 (some 303) #[true, true, true, true, true, true, true, true, true, true, true, false, false, false, false, false, false, false] [(3, .pointer ra), (5, .slice (some allBA_5) allN allC), (19, .int .i64 i_2), (295, .bool true), (302, undef), (303, undef)] (by kernel_rfl) (by kernel_rfl) (by kernel_rfl) (by kernel_rfl) (by kernel_rfl) (by kernel_rfl) (ps (by kernel_rfl)) ?_
              refine G_pass 11 (some 304) #[true, true, true, true, true, true, true, true, true, true, true, true, false, false, false, false, false, false] [(3, .pointer ra), (5, .slice (some allBA_5) allN allC), (19, .int .i64 i_2), (295, .bool true), (302, undef), (303, undef), (304, undef)] (by kernel_rfl) (by kernel_rfl) (by kernel_rfl) (by kernel_rfl) (by kernel_rfl) (by kernel_rfl) (ps (by kernel_rfl)) ?_
              refine G_pass 12 (some 305) #[true, true, true, true, true, true, true, true, true, true, true, true, true, false, false, false, false, false] [(3, .pointer ra), (5, .slice (some allBA_5) allN allC), (19, .int .i64 i_2), (295, .bool true), (302, undef), (305, undef)] (by kernel_rfl) (by kernel_rfl) (by kernel_rfl) (by kernel_rfl) (by kernel_rfl) (by kernel_rfl) (ps (by kernel_rfl)) ?_
              refine G_pass 13 (some 306) #[true, true, true, true, true, true, true, true, true, true, true, true, true, true, false, false, false, false] [(3, .pointer ra), (5, .slice (some allBA_5) allN allC), (19, .int .i64 i_2), (295, .bool true), (302, undef), (306, undef)] (by kernel_rfl) (by kernel_rfl) (by kernel_rfl) (by kernel_rfl) (by kernel_rfl) (by kernel_rfl) (ps (by kernel_rfl)) ?_
              refine G_pass 14 (some 307) #[true, true, true, true, true, true, true, true, true, true, true, true, true, true, true, false, false, false] [(3, .pointer ra), (5, .slice (some allBA_5) allN allC), (19, .int .i64 i_2), (295, .bool true), (302, undef), (307, undef)] (by kernel_rfl) (by kernel_rfl) (by kernel_rfl) (by kernel_rfl) (by kernel_rfl) (by kernel_rfl) (ps (by kernel_rfl)) ?_
              refine G_pass 15 (some 308) #[true, true, true, true, true, true, true, true, true, true, true, true, true, true, true, true, false, false] [(3, .pointer ra), (5, .slice (some allBA_5) allN allC), (19, .int .i64 i_2), (295, .bool true), (302, undef), (308, undef)] (by kernel_rfl) (by kernel_rfl) (by kernel_rfl) (by kernel_rfl) (by kernel_rfl) (by kernel_rfl) (ps (by kernel_rfl)) ?_
              refine G_pass 16 (some 309) #[true, true, true, true, true, true, true, true, true, true, true, true, true, true, true, true, true, false] [(3, .pointer ra), (5, .slice (some allBA_5) allN allC), (19, .int .i64 i_2), (295, .bool true), (309, undef)] (by kernel_rfl) (by kernel_rfl) (by kernel_rfl) (by kernel_rfl) (by kernel_rfl) (by kernel_rfl) (ps (by kernel_rfl)) ?_
              refine G_take 17 (some 310) (.bool true) #[true, true, true, true, true, true, true, true, true, true, true, true, true, true, true, true, true, true] [(3, .pointer ra), (5, .slice (some allBA_5) allN allC), (19, .int .i64 i_2), (310, .bool true)] ((pure (.value (.bool true)) : Sem Next)) (fun w => by kernel_rfl) (fun _ _ _ _ _ => rfl) (by kernel_rfl) (by kernel_rfl) (by kernel_rfl) (by kernel_rfl) (by kernel_rfl) (ps (by kernel_rfl)) ?_
              refine G_sub [(3, .pointer ra), (5, .slice (some allBA_5) allN allC), (19, .int .i64 i_2), (310, .bool true)] (sb (by kernel_rfl)) ?_
              refine G_end (by kernel_rfl) ?_
              refine S_then ?_
              refine S_condT (.tmp 310) morainelaw20_FrameLexical.k199 morainelaw20_FrameLexical.k200 (by kernel_rfl) (by kernel_rfl) ?_
              refine S_seq morainelaw20_FrameLexical.k201 morainelaw20_FrameLexical.k202 (by kernel_rfl) ?_
              refine S_region 60 (Code.ops morainelaw20_FrameLexical.k201) (by kernel_rfl) ?_
              refine N_run 1 [(2, .bool false)] (fun w => by kernel_rfl) ?_
              refine N_end (by kernel_rfl) ?_
              refine S_then ?_
              refine S_ret (by kernel_rfl) ?_
              show At _ _ _ _ (Q .ret)
              exact S_done (fn := Try.f5) [.bool false] hQ (show ResOK _ _ _ [.tmp 2] _ from .tmp (by kernel_rfl) (.nil)) h
        · rw [if_neg c124] at h
          have b125 : (decide (i_2 < (allN : Int))) = false := decide_eq_false c124
          refine S_env [(3, .pointer ra), (5, .slice allB allN allC), (19, .int .i64 i_2), (214, .bool false)] (by simp only [b125, Bool.not_true, Bool.not_false]) ?_
          clear b125
          refine S_condF (.tmp 214) morainelaw20_FrameLexical.k140 morainelaw20_FrameLexical.k141 (by kernel_rfl) (by kernel_rfl) ?_
          refine S_exit 6 (by kernel_rfl) ?_
          refine S_exitThen ?_
          refine S_exitThen ?_
          refine S_exitHere ?_
          refine S_then ?_
          refine S_seq morainelaw20_FrameLexical.k203 morainelaw20_FrameLexical.k204 (by kernel_rfl) ?_
          refine S_region 61 (Code.ops morainelaw20_FrameLexical.k203) (by kernel_rfl) ?_
          refine N_sub [] (sb (by kernel_rfl)) ?_
          refine N_call (some 311) 12 #[] (fun w => by kernel_rfl) h ?_; clear h
          rintro v_10 H35 ⟨x_26, rfl, h⟩
          refine ⟨[(311, .bool x_26)], ps (by kernel_rfl), ?_⟩
          refine N_run 1 [(2, .bool x_26)] (fun w => by kernel_rfl) ?_
          refine N_end (by kernel_rfl) ?_
          refine S_then ?_
          refine S_ret (by kernel_rfl) ?_
          show At _ _ _ _ (Q .ret)
          exact S_done (fn := Try.f5) [.bool x_26] hQ (show ResOK _ _ _ [.tmp 2] _ from .tmp (by kernel_rfl) (.nil)) h
  · intro hk
    refine N_run 3 [(0, .slice lB lN lC), (3, .pointer ra), (4, .int .i64 rb), (35, .bool (rb != 0))] (fun w => by kernel_rfl) ?_
    by_cases c1 : rb = 0
    · have b2 : (rb != 0) = false := bne_eq_false_iff_eq.mpr c1
      refine N_env [(0, .slice lB lN lC), (3, .pointer ra), (4, .int .i64 rb), (35, .bool false)] (by simp only [b2, Bool.not_true, Bool.not_false]) ?_
      refine N_run 4 [(0, .slice lB lN lC), (3, .pointer ra), (4, .int .i64 rb), (39, .bool (decide ((lN : Int) > 100)))] (fun w => by kernel_rfl) ?_
      refine N_end (by kernel_rfl) ?_
      refine S_env [(0, .slice lB lN lC), (3, .pointer ra), (4, .int .i64 rb), (39, .bool ((rb != 0) || (decide ((lN : Int) > 100))))] (by simp only [b2, Bool.true_or, Bool.false_or, Bool.or_true, Bool.or_false, Bool.true_and, Bool.false_and, Bool.and_true, Bool.and_false, Bool.not_true, Bool.not_false, cond_true, cond_false]) ?_
      exact hk
    · have b2 : (rb != 0) = true := bne_iff_ne.mpr c1
      refine N_env [(0, .slice lB lN lC), (3, .pointer ra), (4, .int .i64 rb), (35, .bool true)] (by simp only [b2, Bool.not_true, Bool.not_false]) ?_
      refine N_run 4 [(0, .slice lB lN lC), (3, .pointer ra), (4, .int .i64 rb), (39, .bool true)] (fun w => by kernel_rfl) ?_
      refine N_end (by kernel_rfl) ?_
      refine S_env [(0, .slice lB lN lC), (3, .pointer ra), (4, .int .i64 rb), (39, .bool ((rb != 0) || (decide ((lN : Int) > 100))))] (by simp only [b2, Bool.true_or, Bool.false_or, Bool.or_true, Bool.or_false, Bool.true_and, Bool.false_and, Bool.and_true, Bool.and_false, Bool.not_true, Bool.not_false, cond_true, cond_false]) ?_
      exact hk

end Go.Proofs.Ytfohlkiikppefaa
