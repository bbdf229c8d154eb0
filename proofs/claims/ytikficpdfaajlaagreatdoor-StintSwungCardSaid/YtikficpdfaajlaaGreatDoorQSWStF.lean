/- Closed facts on the program; the structs of the models. Conditions: none. -/
import Derived.Test.YtikficpdfaajlaaGreatDoorQSWLgC
import Derived.Test.YtikficpdfaajlaaGreatDoorQSWLgE
import Derived.Test.YtikficpdfaajlaaGreatDoorProg
import Derived.KernelRfl
namespace Go.Proofs.YtikficpdfaajlaaGreatDoor
open Go.Lg Go.Proofs Tryz
theorem aM:dy prog 3:=vO
theorem eQ:dy prog 4:=vO
theorem pn:dy prog 9:=vO
theorem qN:dy prog 21:=vO
theorem gV:dy prog 22:=vO
theorem da:dy prog 23:=vO
theorem fR:dy prog 24:=vO
theorem fu:dy prog 25:=vO
theorem gW:dy prog 26:=vO
theorem kQ:dy prog 29:=vO
theorem ml:dy prog 37:=vO
theorem zt:dy prog 40:=vO
theorem pk:dy prog 51:=vO
theorem vH:dy prog 86:=vO
theorem zu:dy prog 91:=vO
theorem jj:dy prog 118:=vO
theorem qL:dy prog 128:=vO
theorem QR:dy prog 136:=vO
theorem vG:dy prog 144:=vO
theorem zr:dy prog 150:=vO
theorem qM:dy prog 159:=vO
theorem QS:dy prog 175:=vO
theorem zs:dy prog 176:=vO
theorem QT:dy prog 200:=vO
theorem QU:dy prog 234:=vO
theorem kP:dy prog 236:=vO
theorem bF:eU prog 28 6:=vA
theorem eg:eU prog 31 5:=vA
theorem e6:eU prog 33 2:=vA
theorem q9:eU prog 50 3:=vA
theorem jz:eU prog 79 2:=vA
theorem mQ:eU prog 81 5:=vA
theorem jA:eU prog 88 6:=vA
theorem n9:eU prog 93 2:=vA
theorem re:eU prog 97 5:=vA
theorem tA:eU prog 99 6:=vA
theorem wX:eU prog 105 2:=vA
theorem ic:eU prog 108 4:=vA
theorem lO:eU prog 111 5:=vA
theorem eB:eU prog 116 6:=vA
theorem ie:eU prog 122 3:=vA
theorem cK:eU prog 125 7:=vA
theorem dt:eU prog 139 4:=vA
theorem cd:eU prog 141 16:=vA
theorem G8:eU prog 163 3:=vA
theorem G9:eU prog 172 6:=vA
theorem n0:dU prog 3 #[.int .i64 0]:=⟨.int .i64 0,vK λ _=>by kernel_rfl,rfl⟩
theorem Ao:dU prog 4 #[.bool false]:=⟨.bool false,vK λ _=>by kernel_rfl,rfl⟩
theorem kV:dU prog 28 #[.int .i64 0,.slice none 0 0,.slice none 0 0,.slice none 0 0,.slice none 0 0,.slice none 0 0]:=vZ
theorem An:dU prog 31 #[.int .i64 0,.int .i64 0,.int .i64 0,.slice none 0 0,.slice none 0 0]:=vZ
theorem mJ:dU prog 33 #[.int .i64 0,.int .i64 0]:=vZ
theorem TY:dU prog 37 #[.int .i64 0]:=⟨.int .i64 0,vK λ _=>by kernel_rfl,rfl⟩
theorem TZ:dU prog 50 #[.int .i64 0,.int .i64 0,.bool false]:=vZ
theorem T1:dU prog 51 #[.slice none 0 0]:=⟨.slice none 0 0,vK λ _=>by kernel_rfl,rfl⟩
theorem wO:dU prog 79 #[.int .i64 0,.int .i64 0]:=vZ
theorem wP:dU prog 88 #[.int .i64 0,.int .i64 0,.int .i64 0,.slice none 0 0,.slice none 0 0,.slice none 0 0]:=vZ
theorem GR:dU prog 97 #[.int .i64 0,.int .i64 0,.int .i64 0,.int .i64 0,.int .i64 0]:=vZ
theorem GU:dU prog 99 #[.int .i64 0,.int .i64 0,.int .i64 0,.int .i64 0,.int .i64 0,.int .i64 0]:=vZ
theorem TS:dU prog 105 #[.string ⟨#[]⟩,.int .i64 0]:=vZ
theorem nZ:dU prog 108 #[.int .i64 0,.int .i64 0,.int .i64 0,.int .i64 0]:=vZ
theorem wL:dU prog 111 #[.int .i64 0,.int .i64 0,.int .i64 0,.int .i64 0,.bool false]:=vZ
theorem GO:dU prog 116 #[.int .i64 0,.slice none 0 0,.slice none 0 0,.slice none 0 0,.slice none 0 0,.slice none 0 0]:=vZ
theorem wM:dU prog 122 #[.int .i64 0,.int .i64 0,.int .i64 0]:=vZ
theorem g0:dU prog 125 #[.int .i64 0,.slice none 0 0,.slice none 0 0,.slice none 0 0,.slice none 0 0,.slice none 0 0,.slice none 0 0]:=vZ
theorem fV:dU prog 139 #[.bool false,.bool false,.bool false,.bool false]:=vZ
theorem eT:dU prog 141 #[.bool false,.bool false,.bool false,.bool false,.bool false,.bool false,.bool false,.bool false,.bool false,.bool false,.bool false,.bool false,.bool false,.bool false,.bool false,.bool false]:=vZ
theorem TT:dU prog 144 #[.nilFunc]:=⟨.nilFunc,vK λ _=>by kernel_rfl,rfl⟩
theorem GQ:dU prog 159 #[.nilFunc]:=⟨.nilFunc,vK λ _=>by kernel_rfl,rfl⟩
theorem TU:dU prog 176 #[.nilFunc]:=⟨.nilFunc,vK λ _=>by kernel_rfl,rfl⟩
theorem TV:dU prog 183 #[.int .i32 0,.int .u32 0]:=vZ
theorem TW:dU prog 190 #[.int .u64 0,.int .u32 0]:=vZ
theorem TX:dU prog 236 #[.int .u64 0]:=⟨.int .u64 0,vK λ _=>by kernel_rfl,rfl⟩
theorem Lo:cT prog 28 0 0:=λ _ _=>vK λ _=>by kernel_rfl
theorem Lq:cT prog 28 1 1:=λ _ _=>vK λ _=>by kernel_rfl
theorem Lr:cT prog 28 2 2:=λ _ _=>vK λ _=>by kernel_rfl
theorem Ls:cT prog 28 3 3:=λ _ _=>vK λ _=>by kernel_rfl
theorem Lt:cT prog 28 4 4:=λ _ _=>vK λ _=>by kernel_rfl
theorem Lu:cT prog 28 5 5:=λ _ _=>vK λ _=>by kernel_rfl
theorem Lv:cT prog 31 0 0:=λ _ _=>vK λ _=>by kernel_rfl
theorem Lw:cT prog 31 1 1:=λ _ _=>vK λ _=>by kernel_rfl
theorem Lx:cT prog 31 2 2:=λ _ _=>vK λ _=>by kernel_rfl
theorem Ly:cT prog 31 3 3:=λ _ _=>vK λ _=>by kernel_rfl
theorem Lz:cT prog 31 4 4:=λ _ _=>vK λ _=>by kernel_rfl
theorem LA:cT prog 33 0 0:=λ _ _=>vK λ _=>by kernel_rfl
theorem LB:cT prog 33 1 1:=λ _ _=>vK λ _=>by kernel_rfl
theorem LC:cT prog 50 0 0:=λ _ _=>vK λ _=>by kernel_rfl
theorem LD:cT prog 50 1 1:=λ _ _=>vK λ _=>by kernel_rfl
theorem LF:cT prog 50 2 2:=λ _ _=>vK λ _=>by kernel_rfl
theorem LG:cT prog 79 0 0:=λ _ _=>vK λ _=>by kernel_rfl
theorem LH:cT prog 79 1 1:=λ _ _=>vK λ _=>by kernel_rfl
theorem LI:cT prog 81 0 0:=λ _ _=>vK λ _=>by kernel_rfl
theorem LJ:cT prog 88 0 0:=λ _ _=>vK λ _=>by kernel_rfl
theorem LK:cT prog 88 1 5:=λ _ _=>vK λ _=>by kernel_rfl
theorem LL:cT prog 93 0 0:=λ _ _=>vK λ _=>by kernel_rfl
theorem LM:cT prog 93 1 1:=λ _ _=>vK λ _=>by kernel_rfl
theorem LN:cT prog 97 0 0:=λ _ _=>vK λ _=>by kernel_rfl
theorem LO:cT prog 97 1 2:=λ _ _=>vK λ _=>by kernel_rfl
theorem LP:cT prog 99 0 0:=λ _ _=>vK λ _=>by kernel_rfl
theorem KS:cT prog 105 0 0:=λ _ _=>vK λ _=>by kernel_rfl
theorem KT:cT prog 105 1 1:=λ _ _=>vK λ _=>by kernel_rfl
theorem KU:cT prog 108 0 0:=λ _ _=>vK λ _=>by kernel_rfl
theorem KV:cT prog 108 1 1:=λ _ _=>vK λ _=>by kernel_rfl
theorem KX:cT prog 108 2 2:=λ _ _=>vK λ _=>by kernel_rfl
theorem KY:cT prog 108 3 3:=λ _ _=>vK λ _=>by kernel_rfl
theorem KZ:cT prog 111 0 0:=λ _ _=>vK λ _=>by kernel_rfl
theorem K0:cT prog 111 1 2:=λ _ _=>vK λ _=>by kernel_rfl
theorem La:cT prog 111 2 3:=λ _ _=>vK λ _=>by kernel_rfl
theorem Lb:cT prog 111 3 4:=λ _ _=>vK λ _=>by kernel_rfl
theorem Ld:cT prog 116 0 0:=λ _ _=>vK λ _=>by kernel_rfl
theorem Lf:cT prog 122 0 0:=λ _ _=>vK λ _=>by kernel_rfl
theorem Lg:cT prog 125 0 0:=λ _ _=>vK λ _=>by kernel_rfl
theorem Lh:cT prog 125 1 6:=λ _ _=>vK λ _=>by kernel_rfl
theorem Li:cT prog 181 0 0:=λ _ _=>vK λ _=>by kernel_rfl
theorem Lj:cT prog 181 1 1:=λ _ _=>vK λ _=>by kernel_rfl
theorem Lk:cT prog 183 1 0:=λ _ _=>vK λ _=>by kernel_rfl
theorem Ll:cT prog 188 2 0:=λ _ _=>vK λ _=>by kernel_rfl
theorem Lm:cT prog 190 1 0:=λ _ _=>vK λ _=>by kernel_rfl
theorem Ln:cT prog 190 2 1:=λ _ _=>vK λ _=>by kernel_rfl
theorem ju:gk prog 22 79 2:=vS underlying22
theorem jW:gk prog 23 33 2:=vS underlying23
theorem lJ:gk prog 24 105 2:=vS underlying24
theorem nR:gk prog 25 108 4:=vS underlying25
theorem tc:gk prog 26 50 3:=vS underlying26
theorem vY:gk prog 29 111 5:=vS underlying29
theorem bA:gk prog 40 3 1:=vS underlying40
theorem zQ:gk prog 51 40 1:=vS underlying51
theorem SE:gk prog 86 99 6:=vS underlying86
theorem FY:gk prog 118 122 3:=vS underlying118
theorem zP:gk prog 150 141 16:=vS underlying150
theorem xb:jx prog 95 3 3 1:=⟨underlying95,vK λ _=>by kernel_rfl⟩
theorem pE:jx prog 120 3 3 1:=⟨underlying120,vK λ _=>by kernel_rfl⟩
theorem iP:jx prog 139 4 4 1:=⟨underlying139,vK λ _=>by kernel_rfl⟩
theorem kZ:jx prog 141 4 139 4:=⟨underlying141,vK λ _=>by kernel_rfl⟩
theorem xa:jx prog 163 3 91 1:=⟨underlying163,vK λ _=>by kernel_rfl⟩
theorem pF:jx prog 172 6 128 1:=⟨underlying172,vK λ _=>by kernel_rfl⟩
theorem tf:hn prog 28 [(0,1),(1,1),(2,1),(3,1),(4,1),(5,1)] #[.int .i64 0,.slice none 0 0,.slice none 0 0,.slice none 0 0,.slice none 0 0,.slice none 0 0]:=vT underlying28
theorem tg:hn prog 31 [(0,1),(1,1),(2,1),(3,1),(4,1)] #[.int .i64 0,.int .i64 0,.int .i64 0,.slice none 0 0,.slice none 0 0]:=vT underlying31
theorem ti:hn prog 33 [(0,1),(1,1)] #[.int .i64 0,.int .i64 0]:=vT underlying33
theorem Gh:hn prog 50 [(0,1),(1,1),(2,1)] #[.int .i64 0,.int .i64 0,.bool false]:=vT underlying50
theorem qV:hn prog 79 [(0,1),(1,1)] #[.int .i64 0,.int .i64 0]:=vT underlying79
theorem tj:hn prog 81 [(0,5)] #[.int .i64 0,.int .i64 0,.int .i64 0,.slice none 0 0,.slice none 0 0]:=vT underlying81
theorem wx:hn prog 88 [(0,5),(5,1)] #[.int .i64 0,.int .i64 0,.int .i64 0,.slice none 0 0,.slice none 0 0,.slice none 0 0]:=vT underlying88
theorem SZ:hn prog 93 [(0,1),(1,1)] #[.int .i64 0,.int .i64 0]:=vT underlying93
theorem S0:hn prog 99 [(0,5),(5,1)] #[.int .i64 0,.int .i64 0,.int .i64 0,.int .i64 0,.int .i64 0,.int .i64 0]:=vT underlying99
theorem Gg:hn prog 105 [(0,1),(1,1)] #[.string ⟨#[]⟩,.int .i64 0]:=vT underlying105
theorem zX:hn prog 108 [(0,1),(1,1),(2,1),(3,1)] #[.int .i64 0,.int .i64 0,.int .i64 0,.int .i64 0]:=vT underlying108
theorem jv:hn prog 116 [(0,6)] #[.int .i64 0,.slice none 0 0,.slice none 0 0,.slice none 0 0,.slice none 0 0,.slice none 0 0]:=vT underlying116
theorem nV:hn prog 125 [(0,6),(6,1)] #[.int .i64 0,.slice none 0 0,.slice none 0 0,.slice none 0 0,.slice none 0 0,.slice none 0 0,.slice none 0 0]:=vT underlying125
theorem tF:Ar prog 141 #[.bool false,.bool false,.bool false,.bool false,.bool false,.bool false,.bool false,.bool false,.bool false,.bool false,.bool false,.bool false,.bool false,.bool false,.bool false,.bool false]:=⟨⟨.agg #[.bool false,.bool false,.bool false,.bool false,.bool false,.bool false,.bool false,.bool false,.bool false,.bool false,.bool false,.bool false,.bool false,.bool false,.bool false,.bool false],vK λ _=>by kernel_rfl,rfl⟩,_,_,4,underlying141,vK λ _=>by kernel_rfl⟩
theorem eG:aj prog (sizeOf 3) 1:=vK λ _=>by kernel_rfl
theorem zO:aj prog (sizeOf 33) 2:=vK λ _=>by kernel_rfl
theorem uk:ia prog 22 79 2 #[.int .i64 0,.int .i64 0]:=vL underlying22
theorem om:ia prog 23 33 2 #[.int .i64 0,.int .i64 0]:=vL underlying23
theorem Cc:ia prog 24 105 2 #[.string ⟨#[]⟩,.int .i64 0]:=vL underlying24
theorem Cd:ia prog 25 108 4 #[.int .i64 0,.int .i64 0,.int .i64 0,.int .i64 0]:=vL underlying25
theorem oo:ia prog 26 50 3 #[.int .i64 0,.int .i64 0,.bool false]:=vL underlying26
theorem IC:ia prog 29 111 5 #[.int .i64 0,.int .i64 0,.int .i64 0,.int .i64 0,.bool false]:=vL underlying29
theorem gS:ia prog 40 3 1 #[.int .i64 0]:=⟨underlying40,vK λ _=>by kernel_rfl,⟨.int .i64 0,vK λ _=>by kernel_rfl,rfl⟩,rfl,by decide⟩
theorem um:ia prog 51 40 1 #[.slice none 0 0]:=⟨underlying51,vK λ _=>by kernel_rfl,⟨.slice none 0 0,vK λ _=>by kernel_rfl,rfl⟩,rfl,by decide⟩
theorem ID:ia prog 86 99 6 #[.int .i64 0,.int .i64 0,.int .i64 0,.int .i64 0,.int .i64 0,.int .i64 0]:=vL underlying86
theorem IA:ia prog 118 122 3 #[.int .i64 0,.int .i64 0,.int .i64 0]:=vL underlying118
theorem IB:ia prog 150 141 16 #[.bool false,.bool false,.bool false,.bool false,.bool false,.bool false,.bool false,.bool false,.bool false,.bool false,.bool false,.bool false,.bool false,.bool false,.bool false,.bool false]:=vL underlying150
theorem JU:aV prog 4:=vE func4
theorem JZ:aV prog 5:=vE func5
theorem yl:aV prog 6:=vE func6
theorem J7:aV prog 7:=vE func7
theorem CJ:aV prog 8:=vE func8
theorem Kg:aV prog 9:=vE func9
theorem II:aV prog 10:=vE func10
theorem xZ:aV prog 11:=vE func11
theorem IU:aV prog 12:=vE func12
theorem I5:aV prog 13:=vE func13
theorem Jf:aV prog 14:=vE func14
theorem Cm:aV prog 15:=vE func15
theorem Co:aV prog 16:=vE func16
theorem yb:aV prog 17:=vE func17
theorem ye:aV prog 18:=vE func18
theorem Jt:aV prog 19:=vE func19
theorem rL:aV prog 20:=vE func20
theorem Jv:aV prog 21:=vE func21
theorem Cs:aV prog 22:=vE func22
theorem uw:aV prog 23:=vE func23
theorem uy:aV prog 24:=vE func24
theorem uz:aV prog 25:=vE func25
theorem JO:aV prog 26:=vE func26
theorem yg:aV prog 27:=vE func27
theorem yh:aV prog 28:=vE func28
theorem uA:aV prog 29:=vE func29
theorem JP:aV prog 30:=vE func30
theorem JQ:aV prog 31:=vE func31
theorem JR:aV prog 32:=vE func32
theorem Ct:aV prog 33:=vE func33
theorem Cu:aV prog 34:=vE func34
theorem yi:aV prog 35:=vE func35
theorem Cv:aV prog 36:=vE func36
theorem yj:aV prog 37:=vE func37
theorem JS:aV prog 38:=vE func38
theorem Cw:aV prog 39:=vE func39
theorem JV:aV prog 40:=vE func40
theorem Cx:aV prog 41:=vE func41
theorem Cy:aV prog 42:=vE func42
theorem Cz:aV prog 43:=vE func43
theorem JW:aV prog 44:=vE func44
theorem JX:aV prog 45:=vE func45
theorem JY:aV prog 46:=vE func46
theorem fj:aV prog 47:=vE func47
theorem CA:aV prog 48:=vE func48
theorem CC:aV prog 49:=vE func49
theorem J0:aV prog 50:=vE func50
theorem J1:aV prog 51:=vE func51
theorem J2:aV prog 52:=vE func52
theorem oq:aV prog 53:=vE func53
theorem gE:aV prog 54:=vE func54
theorem uB:aV prog 55:=vE func55
theorem yk:aV prog 56:=vE func56
theorem uC:aV prog 57:=vE func57
theorem iq:aV prog 58:=vE func58
theorem uD:aV prog 59:=vE func59
theorem CD:aV prog 60:=vE func60
theorem J3:aV prog 61:=vE func61
theorem J4:aV prog 62:=vE func62
theorem J5:aV prog 63:=vE func63
theorem m0:aV prog 64:=vE func64
theorem CE:aV prog 65:=vE func65
theorem uE:aV prog 66:=vE func66
theorem J6:aV prog 67:=vE func67
theorem ym:aV prog 68:=vE func68
theorem CF:aV prog 69:=vE func69
theorem J8:aV prog 70:=vE func70
theorem J9:aV prog 71:=vE func71
theorem yn:aV prog 72:=vE func72
theorem Ka:aV prog 73:=vE func73
theorem CG:aV prog 74:=vE func74
theorem pO:aV prog 75:=vE func75
theorem uF:aV prog 76:=vE func76
theorem iW:aV prog 77:=vE func77
theorem fl:aV prog 78:=vE func78
theorem CH:aV prog 79:=vE func79
theorem Kb:aV prog 80:=vE func80
theorem Kc:aV prog 81:=vE func81
theorem CK:aV prog 82:=vE func82
theorem yo:aV prog 83:=vE func83
theorem Kd:aV prog 84:=vE func84
theorem CL:aV prog 85:=vE func85
theorem yp:aV prog 86:=vE func86
theorem yq:aV prog 87:=vE func87
theorem Ke:aV prog 88:=vE func88
theorem Kf:aV prog 89:=vE func89
theorem Kh:aV prog 90:=vE func90
theorem Ki:aV prog 91:=vE func91
theorem Kj:aV prog 92:=vE func92
theorem Kk:aV prog 93:=vE func93
theorem Kl:aV prog 94:=vE func94
theorem Km:aV prog 95:=vE func95
theorem m2:aV prog 96:=vE func96
theorem Ko:aV prog 97:=vE func97
theorem Kp:aV prog 98:=vE func98
theorem Kq:aV prog 99:=vE func99
theorem xY:aV prog 100:=vE func100
theorem Cf:aV prog 101:=vE func101
theorem IJ:aV prog 102:=vE func102
theorem IK:aV prog 103:=vE func103
theorem IL:aV prog 104:=vE func104
theorem Cg:aV prog 105:=vE func105
theorem Ch:aV prog 106:=vE func106
theorem pN:aV prog 107:=vE func107
theorem Ci:aV prog 108:=vE func108
theorem uq:aV prog 109:=vE func109
theorem ya:aV prog 110:=vE func110
theorem Cj:aV prog 111:=vE func111
theorem Ck:aV prog 112:=vE func112
theorem IM:aV prog 113:=vE func113
theorem IN:aV prog 115:=vE func115
theorem IP:aV prog 116:=vE func116
theorem IQ:aV prog 117:=vE func117
theorem IS:aV prog 118:=vE func118
theorem IT:aV prog 119:=vE func119
theorem IV:aV prog 120:=vE func120
theorem IW:aV prog 121:=vE func121
theorem IX:aV prog 122:=vE func122
theorem IY:aV prog 123:=vE func123
theorem IZ:aV prog 124:=vE func124
theorem I0:aV prog 125:=vE func125
theorem I1:aV prog 126:=vE func126
theorem I2:aV prog 127:=vE func127
theorem I3:aV prog 128:=vE func128
theorem I4:aV prog 129:=vE func129
theorem I6:aV prog 130:=vE func130
theorem I7:aV prog 131:=vE func131
theorem I8:aV prog 132:=vE func132
theorem I9:aV prog 133:=vE func133
theorem Ja:aV prog 134:=vE func134
theorem im:aV prog 135:=vE func135
theorem Jb:aV prog 136:=vE func136
theorem Jc:aV prog 137:=vE func137
theorem Je:aV prog 139:=vE func139
theorem Cl:aV prog 140:=vE func140
theorem Jg:aV prog 141:=vE func141
theorem Jh:aV prog 142:=vE func142
theorem Ji:aV prog 143:=vE func143
theorem Jj:aV prog 157:=vE func157
theorem Jk:aV prog 158:=vE func158
theorem Jl:aV prog 164:=vE func164
theorem Cp:aV prog 165:=vE func165
theorem Jm:aV prog 166:=vE func166
theorem Cq:aV prog 167:=vE func167
theorem Jo:aV prog 168:=vE func168
theorem Jp:aV prog 169:=vE func169
theorem yc:aV prog 170:=vE func170
theorem yd:aV prog 171:=vE func171
theorem uu:aV prog 172:=vE func172
theorem Jq:aV prog 173:=vE func173
theorem Jr:aV prog 179:=vE func179
theorem Cr:aV prog 181:=vE func181
theorem Js:aV prog 183:=vE func183
theorem yf:aV prog 184:=vE func184
theorem Ju:aV prog 192:=vE func192
theorem Jw:aV prog 210:=vE func210
theorem Jx:aV prog 211:=vE func211
theorem Jy:aV prog 212:=vE func212
theorem Jz:aV prog 213:=vE func213
theorem JA:aV prog 214:=vE func214
theorem JB:aV prog 215:=vE func215
theorem JC:aV prog 216:=vE func216
theorem JD:aV prog 217:=vE func217
theorem JE:aV prog 218:=vE func218
theorem JF:aV prog 219:=vE func219
theorem JG:aV prog 220:=vE func220
theorem JH:aV prog 221:=vE func221
theorem JI:aV prog 222:=vE func222
theorem JJ:aV prog 223:=vE func223
theorem JK:aV prog 224:=vE func224
theorem JL:aV prog 225:=vE func225
theorem JM:aV prog 226:=vE func226
theorem JN:aV prog 227:=vE func227
def zq:Nat→Nat→Option Nat
 | 28,0=>some 0
 | 28,1=>some 1
 | 28,2=>some 2
 | 28,3=>some 3
 | 28,4=>some 4
 | 28,5=>some 5
 | 31,0=>some 0
 | 31,1=>some 1
 | 31,2=>some 2
 | 31,3=>some 3
 | 31,4=>some 4
 | 33,0=>some 0
 | 33,1=>some 1
 | 50,0=>some 0
 | 50,1=>some 1
 | 50,2=>some 2
 | 79,0=>some 0
 | 79,1=>some 1
 | 81,0=>some 0
 | 88,0=>some 0
 | 88,1=>some 5
 | 93,0=>some 0
 | 93,1=>some 1
 | 97,0=>some 0
 | 97,1=>some 2
 | 99,0=>some 0
 | 105,0=>some 0
 | 105,1=>some 1
 | 108,0=>some 0
 | 108,1=>some 1
 | 108,2=>some 2
 | 108,3=>some 3
 | 111,0=>some 0
 | 111,1=>some 2
 | 111,2=>some 3
 | 111,3=>some 4
 | 116,0=>some 0
 | 122,0=>some 0
 | 125,0=>some 0
 | 125,1=>some 6
 | 181,0=>some 0
 | 181,1=>some 1
 | 183,1=>some 0
 | 188,2=>some 0
 | 190,1=>some 0
 | 190,2=>some 1
 | _,_=>none
theorem QN(s f n:Nat)(h:zq s f=some n):cT prog s f n:=by
 unfold zq at h
 split at h
 ·cases h; exact Lo
 ·cases h; exact Lq
 ·cases h; exact Lr
 ·cases h; exact Ls
 ·cases h; exact Lt
 ·cases h; exact Lu
 ·cases h; exact Lv
 ·cases h; exact Lw
 ·cases h; exact Lx
 ·cases h; exact Ly
 ·cases h; exact Lz
 ·cases h; exact LA
 ·cases h; exact LB
 ·cases h; exact LC
 ·cases h; exact LD
 ·cases h; exact LF
 ·cases h; exact LG
 ·cases h; exact LH
 ·cases h; exact LI
 ·cases h; exact LJ
 ·cases h; exact LK
 ·cases h; exact LL
 ·cases h; exact LM
 ·cases h; exact LN
 ·cases h; exact LO
 ·cases h; exact LP
 ·cases h; exact KS
 ·cases h; exact KT
 ·cases h; exact KU
 ·cases h; exact KV
 ·cases h; exact KX
 ·cases h; exact KY
 ·cases h; exact KZ
 ·cases h; exact K0
 ·cases h; exact La
 ·cases h; exact Lb
 ·cases h; exact Ld
 ·cases h; exact Lf
 ·cases h; exact Lg
 ·cases h; exact Lh
 ·cases h; exact Li
 ·cases h; exact Lj
 ·cases h; exact Lk
 ·cases h; exact Ll
 ·cases h; exact Lm
 ·cases h; exact Ln
 ·cases h
instance:gC prog:=⟨zq,QN⟩
set_option maxRecDepth 100000
abbrev iv(z:Int):Value:=.int .i64 z
theorem ko{P:Program}{e:Nat}(h:(P.info? e).any (λ i=>decide (i.bytes≤65536))=true):∃ i,P.info? e=some i∧i.bytes≤65536:=by
 cases hi:P.info? e with
 | none=>rw [hi] at h; cases h
 | some i=>rw [hi] at h; exact ⟨i,rfl,by simpa using h⟩
structure dJ where
 db:Int
 dr:Int
def bQ:bY dJ:=λ _ x es=>es=[iv x.db,iv x.dr]
instance:CM bQ:=⟨λ b h=>by obtain rfl:=h; exact rfl,λ h=>by obtain rfl:=h; simp [Value.oneCell']⟩
structure Reach where
 aZ:Int
 bh:Int
def bd:bY Reach:=λ _ x es=>es=[iv x.aZ,iv x.bh]
instance:CM bd:=⟨λ b h=>by obtain rfl:=h; exact rfl,λ h=>by obtain rfl:=h; simp [Value.oneCell']⟩
structure dk where
 Name:ByteArray
 hH:Int
def bL:bY dk:=λ _ x es=>es=[.string x.Name,iv x.hH]
instance:CM bL:=⟨λ b h=>by obtain rfl:=h; exact rfl,λ h=>by obtain rfl:=h; simp [Value.oneCell']⟩
structure gD where
 Place:Int
 fH:Int
 eN:Int
 ay:Int
def bP:bY gD:=λ _ x es=>es=[iv x.Place,iv x.fH,iv x.eN,iv x.ay]
instance:CM bP:=⟨λ b h=>by obtain rfl:=h; exact rfl,λ h=>by obtain rfl:=h; simp [Value.oneCell']⟩
structure c5 where
 Place:Int
 g3:Int
 mL:Bool
def bG:bY c5:=λ _ x es=>es=[iv x.Place,iv x.g3,.bool x.mL]
instance:CM bG:=⟨λ b h=>by obtain rfl:=h; exact rfl,λ h=>by obtain rfl:=h; simp [Value.oneCell']⟩
structure an where
 Rest:Int
 Rows:(List dJ)
 aJ:(List Reach)
 ay:(List dk)
 az:(List gD)
 a0:(List c5)
def wR:bY an:=λ R x es=>∃ b c d f g,aa bQ 2 R b x.Rows∧aa bd 2 R c x.aJ∧aa bL 2 R d x.ay∧aa bP 4 R f x.az∧aa bG 3 R g x.a0∧es=[iv x.Rest,b,c,d,f,g]
instance:CM wR:=⟨λ b h=>by obtain ⟨j,k,m,n,o,c,d,f,g,i,rfl⟩:=h; exact ⟨_,_,_,_,_,c.mono b,d.mono b,f.mono b,g.mono b,i.mono b,rfl⟩,λ h=>by obtain ⟨j,k,m,n,o,c,d,f,g,i,rfl⟩:=h; intro u hu; simp only [c8,List.not_mem_nil,or_false] at hu; rcases hu with rfl | rfl | rfl | rfl | rfl | rfl <;> first | rfl | exact c.one | exact d.one | exact f.one | exact g.one | exact i.one⟩
structure fG where
 bR:Int
 bS:Int
def As:bY fG:=λ _ x es=>es=[iv x.bR,iv x.bS]
instance:CM As:=⟨λ b h=>by obtain rfl:=h; exact rfl,λ h=>by obtain rfl:=h; simp [Value.oneCell']⟩
structure iN where
 U:fG
 hG:Int
 fK:Int
 n7:Bool
def ed:bY iN:=λ _ x es=>es=[iv x.U.bR,iv x.U.bS,iv x.hG,iv x.fK,.bool x.n7]
instance:CM ed:=⟨λ b h=>by obtain rfl:=h; exact rfl,λ h=>by obtain rfl:=h; simp [Value.oneCell']⟩
structure bC where
 bK:Int
 bV:Int
 b8:Int
 a9:(List Reach)
 bz:(List iN)
def wQ:bY bC:=λ R x es=>∃ b c,aa bd 2 R b x.a9∧aa ed 5 R c x.bz∧es=[iv x.bK,iv x.bV,iv x.b8,b,c]
instance:CM wQ:=⟨λ d h=>by obtain ⟨f,g,b,c,rfl⟩:=h; exact ⟨_,_,b.mono d,c.mono d,rfl⟩,λ h=>by obtain ⟨f,g,b,c,rfl⟩:=h; intro u hu; simp only [c8,List.not_mem_nil,or_false] at hu; rcases hu with rfl | rfl | rfl | rfl | rfl <;> first | rfl | exact b.one | exact c.one⟩
structure bc where
 deep:ah
def dI:bY bc:=λ _ x es=>x.deep.length=3∧es=([]++(x.deep.map (Value.int .i64)++[]))
instance:CM dI:=⟨λ c h=>by obtain ⟨b,rfl⟩:=h; exact ⟨b,rfl⟩,λ h=>by obtain ⟨b,rfl⟩:=h; exact (cG bE (cG (e0 λ _=>rfl) bE))⟩
structure bU where
 book:an
 cY:(List bc)
structure c0 where
 at_:fG
 off:ah
def tt:bY c0:=λ _ x es=>x.off.length=3∧es=([iv x.at_.bR,iv x.at_.bS]++(x.off.map (Value.int .i64)++[]))
instance:CM tt:=⟨λ c h=>by obtain ⟨b,rfl⟩:=h; exact ⟨b,rfl⟩,λ h=>by obtain ⟨b,rfl⟩:=h; exact (cG (ba rfl (ba rfl bE)) (cG (e0 λ _=>rfl) bE))⟩
structure fM where
 g5:c0
 DQ:Int
def pz:bY fM:=λ _ x es=>x.g5.off.length=3∧es=([iv x.g5.at_.bR,iv x.g5.at_.bS]++(x.g5.off.map (Value.int .i64)++[iv x.DQ]))
instance:CM pz:=⟨λ c h=>by obtain ⟨b,rfl⟩:=h; exact ⟨b,rfl⟩,λ h=>by obtain ⟨b,rfl⟩:=h; exact (cG (ba rfl (ba rfl bE)) (cG (e0 λ _=>rfl) (ba rfl bE)))⟩
structure n1 where
 book:bC
 cY:(List fM)
theorem three{α:Type}{l:List α}(h:l.length=3):∃ a b c,l=[a,b,c]:=by
 match l,h with
 | [a,b,c],_=>exact ⟨a,b,c,rfl⟩
theorem four{α:Type}{l:List α}(h:l.length=4):∃ a b c d,l=[a,b,c,d]:=by
 match l,h with
 | [a,b,c,d],_=>exact ⟨a,b,c,d,rfl⟩
theorem Ma:prog.eqGuardType prog.depth 33=false:=by decide +kernel
def yu(x y:Reach):Bool:=(x.aZ == y.aZ && (x.bh == y.bh && true))
theorem Kw(x y:Reach):aj prog (Op.equal 33 (.agg #[iv x.aZ,iv x.bh]) (.agg #[iv y.aZ,iv y.bh])) (yu x y):=Ae (d:=9999) underlying33 (by decide +kernel) (.cons rfl (vK λ _=>by kernel_rfl) (vK λ _=>by kernel_rfl) (qY underlying3) (.cons rfl (vK λ _=>by kernel_rfl) (vK λ _=>by kernel_rfl) (qY underlying3) .nil))
theorem yA:prog.eqGuardType prog.depth 79=false:=by decide +kernel
def rO(x y:dJ):Bool:=(x.db == y.db && (x.dr == y.dr && true))
theorem yv(x y:dJ):aj prog (Op.equal 79 (.agg #[iv x.db,iv x.dr]) (.agg #[iv y.db,iv y.dr])) (rO x y):=Ae (d:=9999) underlying79 (by decide +kernel) (.cons rfl (vK λ _=>by kernel_rfl) (vK λ _=>by kernel_rfl) (qY underlying3) (.cons rfl (vK λ _=>by kernel_rfl) (vK λ _=>by kernel_rfl) (qY underlying3) .nil))
theorem Mb:prog.eqGuardType prog.depth 93=false:=by decide +kernel
def ou(x y:fG):Bool:=(x.bR == y.bR && (x.bS == y.bS && true))
theorem Kx(x y:fG):aj prog (Op.equal 93 (.agg #[iv x.bR,iv x.bS]) (.agg #[iv y.bR,iv y.bS])) (ou x y):=Ae (d:=9999) underlying93 (by decide +kernel) (.cons rfl (vK λ _=>by kernel_rfl) (vK λ _=>by kernel_rfl) (qY underlying3) (.cons rfl (vK λ _=>by kernel_rfl) (vK λ _=>by kernel_rfl) (qY underlying3) .nil))
theorem Nw{α:Type}{l:List α}(h:l.length=3):∃ b a1 c,l=[b,a1,c]:=by
 match l,h with
 | [b,a1,c],_=>exact ⟨b,a1,c,rfl⟩
theorem L9:prog.eqGuardType prog.depth 139=false:=by decide +kernel
def rN(x y:aW):Bool:=x == y
theorem Kv{x y:aW}(j:x.length=4)(k:y.length=4):aj prog (Op.equal 139 (.agg (List.toArray ([]++(x.map Value.bool++[])))) (.agg (List.toArray ([]++(y.map Value.bool++[]))))) (rN x y):=by
 obtain ⟨b,a1,c,f,rfl⟩:=four j
 obtain ⟨b0,b1,b2,g,rfl⟩:=four k
 have hw:([b,a1,c,f] == [b0,b1,b2,g])=((b == b0) && ((a1 == b1) && ((c == b2) && ((f == g) && true)))):=by simp
 unfold rN
 rw [hw]
 refine Tr (d:=9999) (n:=1) underlying139 (vK λ _=>by kernel_rfl) ?_
 refine .cons (i:=0) (rest:=[1,2,3]) (vK λ _=>by kernel_rfl) (vK λ _=>by kernel_rfl) (wI underlying4) ?_
 refine .cons (i:=1) (rest:=[2,3]) (vK λ _=>by kernel_rfl) (vK λ _=>by kernel_rfl) (wI underlying4) ?_
 refine .cons (i:=2) (rest:=[3]) (vK λ _=>by kernel_rfl) (vK λ _=>by kernel_rfl) (wI underlying4) ?_
 refine .cons (i:=3) (rest:=[]) (vK λ _=>by kernel_rfl) (vK λ _=>by kernel_rfl) (wI underlying4) ?_
 exact .nil
theorem w0:iM prog 22 79 2:=⟨underlying22,vK λ _=>by kernel_rfl,ko (by decide +kernel),⟨.agg #[.int .i64 0,.int .i64 0],vK λ _=>by kernel_rfl,rfl⟩⟩
theorem oa:iM prog 23 33 2:=⟨underlying23,vK λ _=>by kernel_rfl,ko (by decide +kernel),⟨.agg #[.int .i64 0,.int .i64 0],vK λ _=>by kernel_rfl,rfl⟩⟩
theorem Hi:iM prog 24 105 2:=⟨underlying24,vK λ _=>by kernel_rfl,ko (by decide +kernel),⟨.agg #[.string ⟨#[]⟩,.int .i64 0],vK λ _=>by kernel_rfl,rfl⟩⟩
theorem Hj:iM prog 25 108 4:=⟨underlying25,vK λ _=>by kernel_rfl,ko (by decide +kernel),⟨.agg #[.int .i64 0,.int .i64 0,.int .i64 0,.int .i64 0],vK λ _=>by kernel_rfl,rfl⟩⟩
theorem mS:iM prog 26 50 3:=⟨underlying26,vK λ _=>by kernel_rfl,ko (by decide +kernel),⟨.agg #[.int .i64 0,.int .i64 0,.bool false],vK λ _=>by kernel_rfl,rfl⟩⟩
theorem Hk:iM prog 29 111 5:=⟨underlying29,vK λ _=>by kernel_rfl,ko (by decide +kernel),⟨.agg #[.int .i64 0,.int .i64 0,.int .i64 0,.int .i64 0,.bool false],vK λ _=>by kernel_rfl,rfl⟩⟩
theorem ri:iM prog 40 3 1:=⟨underlying40,vK λ _=>by kernel_rfl,ko (by decide +kernel),⟨.int .i64 0,vK λ _=>by kernel_rfl,rfl⟩⟩
theorem Hl:iM prog 51 40 1:=⟨underlying51,vK λ _=>by kernel_rfl,ko (by decide +kernel),⟨.slice none 0 0,vK λ _=>by kernel_rfl,rfl⟩⟩
theorem Hm:iM prog 86 99 6:=⟨underlying86,vK λ _=>by kernel_rfl,ko (by decide +kernel),⟨.agg #[.int .i64 0,.int .i64 0,.int .i64 0,.int .i64 0,.int .i64 0,.int .i64 0],vK λ _=>by kernel_rfl,rfl⟩⟩
theorem Hg:iM prog 118 122 3:=⟨underlying118,vK λ _=>by kernel_rfl,ko (by decide +kernel),⟨.agg #[.int .i64 0,.int .i64 0,.int .i64 0],vK λ _=>by kernel_rfl,rfl⟩⟩
theorem Hh:iM prog 150 141 16:=⟨underlying150,vK λ _=>by kernel_rfl,ko (by decide +kernel),⟨.agg #[.bool false,.bool false,.bool false,.bool false,.bool false,.bool false,.bool false,.bool false,.bool false,.bool false,.bool false,.bool false,.bool false,.bool false,.bool false,.bool false],vK λ _=>by kernel_rfl,rfl⟩⟩
theorem HL:(Array.range (0 * 2)).map ((#[.int .i64 0,.int .i64 0]:aU)[· % (#[.int .i64 0,.int .i64 0]:aU).size]!)=#[]:=by kernel_rfl
theorem AT:(Array.range (1 * 2)).map ((#[.int .i64 0,.int .i64 0]:aU)[· % (#[.int .i64 0,.int .i64 0]:aU).size]!)=#[.int .i64 0,.int .i64 0]:=by kernel_rfl
theorem HM:(Array.range (2 * 2)).map ((#[.int .i64 0,.int .i64 0]:aU)[· % (#[.int .i64 0,.int .i64 0]:aU).size]!)=#[.int .i64 0,.int .i64 0,.int .i64 0,.int .i64 0]:=by kernel_rfl
theorem pG:(Array.range (0 * 2)).map ((#[.int .i64 0,.int .i64 0]:aU)[· % (#[.int .i64 0,.int .i64 0]:aU).size]!)=#[]:=by kernel_rfl
theorem HN:(Array.range (2 * 2)).map ((#[.int .i64 0,.int .i64 0]:aU)[· % (#[.int .i64 0,.int .i64 0]:aU).size]!)=#[.int .i64 0,.int .i64 0,.int .i64 0,.int .i64 0]:=by kernel_rfl
theorem HO:(Array.range (0 * 2)).map ((#[.string ⟨#[]⟩,.int .i64 0]:aU)[· % (#[.string ⟨#[]⟩,.int .i64 0]:aU).size]!)=#[]:=by kernel_rfl
theorem HP:(Array.range (2 * 2)).map ((#[.string ⟨#[]⟩,.int .i64 0]:aU)[· % (#[.string ⟨#[]⟩,.int .i64 0]:aU).size]!)=#[.string ⟨#[]⟩,.int .i64 0,.string ⟨#[]⟩,.int .i64 0]:=by kernel_rfl
theorem HQ:(Array.range (0 * 4)).map ((#[.int .i64 0,.int .i64 0,.int .i64 0,.int .i64 0]:aU)[· % (#[.int .i64 0,.int .i64 0,.int .i64 0,.int .i64 0]:aU).size]!)=#[]:=by kernel_rfl
theorem HR:(Array.range (3 * 4)).map ((#[.int .i64 0,.int .i64 0,.int .i64 0,.int .i64 0]:aU)[· % (#[.int .i64 0,.int .i64 0,.int .i64 0,.int .i64 0]:aU).size]!)=#[.int .i64 0,.int .i64 0,.int .i64 0,.int .i64 0,.int .i64 0,.int .i64 0,.int .i64 0,.int .i64 0,.int .i64 0,.int .i64 0,.int .i64 0,.int .i64 0]:=by kernel_rfl
theorem xd:(Array.range (0 * 3)).map ((#[.int .i64 0,.int .i64 0,.bool false]:aU)[· % (#[.int .i64 0,.int .i64 0,.bool false]:aU).size]!)=#[]:=by kernel_rfl
theorem tI:(Array.range (1 * 3)).map ((#[.int .i64 0,.int .i64 0,.bool false]:aU)[· % (#[.int .i64 0,.int .i64 0,.bool false]:aU).size]!)=#[.int .i64 0,.int .i64 0,.bool false]:=by kernel_rfl
theorem HS:(Array.range (0 * 5)).map ((#[.int .i64 0,.int .i64 0,.int .i64 0,.int .i64 0,.bool false]:aU)[· % (#[.int .i64 0,.int .i64 0,.int .i64 0,.int .i64 0,.bool false]:aU).size]!)=#[]:=by kernel_rfl
theorem iS:(Array.range (1 * 1)).map ((#[.int .i64 0]:aU)[· % (#[.int .i64 0]:aU).size]!)=#[.int .i64 0]:=by kernel_rfl
theorem rq:(Array.range (2 * 1)).map ((#[.int .i64 0]:aU)[· % (#[.int .i64 0]:aU).size]!)=#[.int .i64 0,.int .i64 0]:=by kernel_rfl
theorem HT:(Array.range (1 * 1)).map ((#[.slice none 0 0]:aU)[· % (#[.slice none 0 0]:aU).size]!)=#[.slice none 0 0]:=by kernel_rfl
theorem xe:(Array.range (3 * 1)).map ((#[.slice none 0 0]:aU)[· % (#[.slice none 0 0]:aU).size]!)=#[.slice none 0 0,.slice none 0 0,.slice none 0 0]:=by kernel_rfl
theorem HU:(Array.range (1 * 6)).map ((#[.int .i64 0,.int .i64 0,.int .i64 0,.int .i64 0,.int .i64 0,.int .i64 0]:aU)[· % (#[.int .i64 0,.int .i64 0,.int .i64 0,.int .i64 0,.int .i64 0,.int .i64 0]:aU).size]!)=#[.int .i64 0,.int .i64 0,.int .i64 0,.int .i64 0,.int .i64 0,.int .i64 0]:=by kernel_rfl
theorem HJ:(Array.range (1 * 3)).map ((#[.int .i64 0,.int .i64 0,.int .i64 0]:aU)[· % (#[.int .i64 0,.int .i64 0,.int .i64 0]:aU).size]!)=#[.int .i64 0,.int .i64 0,.int .i64 0]:=by kernel_rfl
theorem HK:(Array.range (1 * 16)).map ((#[.bool false,.bool false,.bool false,.bool false,.bool false,.bool false,.bool false,.bool false,.bool false,.bool false,.bool false,.bool false,.bool false,.bool false,.bool false,.bool false]:aU)[· % (#[.bool false,.bool false,.bool false,.bool false,.bool false,.bool false,.bool false,.bool false,.bool false,.bool false,.bool false,.bool false,.bool false,.bool false,.bool false,.bool false]:aU).size]!)=#[.bool false,.bool false,.bool false,.bool false,.bool false,.bool false,.bool false,.bool false,.bool false,.bool false,.bool false,.bool false,.bool false,.bool false,.bool false,.bool false]:=by kernel_rfl
theorem zf:tx prog 194 3 3:=⟨underlying194,underlying3,λ e a=>vK λ _=>by kernel_rfl,vK λ _=>by kernel_rfl⟩
abbrev ez(R:aA):Prop:=aI R [] 0 0 [.func (.func 210) #[] #[],.func (.func 211) #[] #[],.func (.func 212) #[] #[]]∧aI R [] 1 0 [.func (.func 214) #[] #[],.func (.func 215) #[] #[],.func (.func 216) #[] #[],.func (.func 217) #[] #[],.func (.func 218) #[] #[],.func (.func 219) #[] #[]]
theorem ez.mono{R R':aA}(h:ez R)(b:aK R R'):ez R':=⟨aI.up (H:=[]) h.1 b,aI.up (H:=[]) h.2 b⟩
theorem mixed:prog.follows .mixedOrders=true:=by kernel_rfl
end Go.Proofs.YtikficpdfaajlaaGreatDoor
