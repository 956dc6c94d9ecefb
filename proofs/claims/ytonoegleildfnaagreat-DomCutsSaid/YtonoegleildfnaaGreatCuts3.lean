/- Part 3 of the proof; the last part says what is proved. -/
import Derived.Test.YtonoegleildfnaaGreatCuts2
import Derived.Below
import Derived.Carry
import Derived.ChangeOld
import Derived.KernelRfl
import Derived.OpenShut
import Derived.ProofKit
import Derived.Test.YtonoegleildfnaaGreatProg
section
namespace Go.Proofs.Tryz.K
open Go.Abs
noncomputable def bo (f : Func) : Code := (f.body).getD .skip
abbrev FO (n : FuncId) (f : Func) (c : Code) := FnOk prog n f c
theorem fo {n : FuncId} {f : Func} {c : Code} (h1 : prog.funcs[n]? = some f:=by kernel_rfl) (h2 : f.body = some c:=by kernel_rfl) (h3 : codeLt f.ntmps c = true:=by kernel_rfl) (h4 : enterOk prog n = true:=by kernel_rfl) : FO n f c := ⟨h1, h2, h3, h4⟩
noncomputable def body3:=bo Tryz.f3
theorem ok3 : FO 3 Tryz.f3 body3 := fo
noncomputable def body4:=bo Tryz.f4
theorem ok4 : FO 4 Tryz.f4 body4 := fo
noncomputable def body5:=bo Tryz.f5
theorem ok5 : FO 5 Tryz.f5 body5 := fo
noncomputable def body6:=bo Tryz.f6
theorem ok6 : FO 6 Tryz.f6 body6 := fo
noncomputable def body7:=bo Tryz.f7
theorem ok7 : FO 7 Tryz.f7 body7 := fo
noncomputable def body8:=bo Tryz.f8
theorem ok8 : FO 8 Tryz.f8 body8 := fo
noncomputable def body9:=bo Tryz.f9
theorem ok9 : FO 9 Tryz.f9 body9 := fo
noncomputable def body10:=bo Tryz.f10
theorem ok10 : FO 10 Tryz.f10 body10 := fo
noncomputable def body11:=bo Tryz.f11
theorem ok11 : FO 11 Tryz.f11 body11 := fo
noncomputable def body12:=bo Tryz.f12
theorem ok12 : FO 12 Tryz.f12 body12 := fo
theorem rs12 : Tryz.f12.results.toList = [.tmp 6]:=by kernel_rfl
theorem nt12 : Tryz.f12.ntmps = 98:=by kernel_rfl
noncomputable def body13:=bo Tryz.f13
theorem ok13 : FO 13 Tryz.f13 body13 := fo
noncomputable def body14:=bo Tryz.f14
theorem ok14 : FO 14 Tryz.f14 body14 := fo
noncomputable def body15:=bo Tryz.f15
theorem ok15 : FO 15 Tryz.f15 body15 := fo
theorem rs15 : Tryz.f15.results.toList = [.tmp 2]:=by kernel_rfl
theorem nt15 : Tryz.f15.ntmps = 133:=by kernel_rfl
noncomputable def body16:=bo Tryz.f16
theorem ok16 : FO 16 Tryz.f16 body16 := fo
noncomputable def body17:=bo Tryz.f17
theorem ok17 : FO 17 Tryz.f17 body17 := fo
noncomputable def body18:=bo Tryz.f18
theorem ok18 : FO 18 Tryz.f18 body18 := fo
noncomputable def body19:=bo Tryz.f19
theorem ok19 : FO 19 Tryz.f19 body19 := fo
noncomputable def body20:=bo Tryz.f20
theorem ok20 : FO 20 Tryz.f20 body20 := fo
noncomputable def body21:=bo Tryz.f21
theorem ok21 : FO 21 Tryz.f21 body21 := fo
noncomputable def body22:=bo Tryz.f22
theorem ok22 : FO 22 Tryz.f22 body22 := fo
noncomputable def body23:=bo Tryz.f23
theorem ok23 : FO 23 Tryz.f23 body23 := fo
noncomputable def body24:=bo Tryz.f24
theorem ok24 : FO 24 Tryz.f24 body24 := fo
noncomputable def body25:=bo Tryz.f25
theorem ok25 : FO 25 Tryz.f25 body25 := fo
noncomputable def body26:=bo Tryz.f26
theorem ok26 : FO 26 Tryz.f26 body26 := fo
noncomputable def body27:=bo Tryz.f27
theorem ok27 : FO 27 Tryz.f27 body27 := fo
noncomputable def body28:=bo Tryz.f28
theorem ok28 : FO 28 Tryz.f28 body28 := fo
noncomputable def body29:=bo Tryz.f29
theorem ok29 : FO 29 Tryz.f29 body29 := fo
noncomputable def body30:=bo Tryz.f30
theorem ok30 : FO 30 Tryz.f30 body30 := fo
noncomputable def body31:=bo Tryz.f31
theorem ok31 : FO 31 Tryz.f31 body31 := fo
theorem rs31 : Tryz.f31.results.toList = [.tmp 2, .tmp 3]:=by kernel_rfl
theorem nt31 : Tryz.f31.ntmps = 18:=by kernel_rfl
noncomputable def body32:=bo Tryz.f32
theorem ok32 : FO 32 Tryz.f32 body32 := fo
noncomputable def body33:=bo Tryz.f33
theorem ok33 : FO 33 Tryz.f33 body33 := fo
noncomputable def body34:=bo Tryz.f34
theorem ok34 : FO 34 Tryz.f34 body34 := fo
noncomputable def body35:=bo Tryz.f35
theorem ok35 : FO 35 Tryz.f35 body35 := fo
noncomputable def body36:=bo Tryz.f36
theorem ok36 : FO 36 Tryz.f36 body36 := fo
noncomputable def body37:=bo Tryz.f37
theorem ok37 : FO 37 Tryz.f37 body37 := fo
theorem rs37 : Tryz.f37.results.toList = [.tmp 6, .tmp 7]:=by kernel_rfl
theorem nt37 : Tryz.f37.ntmps = 51:=by kernel_rfl
noncomputable def body38:=bo Tryz.f38
theorem ok38 : FO 38 Tryz.f38 body38 := fo
noncomputable def body39:=bo Tryz.f39
theorem ok39 : FO 39 Tryz.f39 body39 := fo
theorem rs39 : Tryz.f39.results.toList = [.tmp 2, .tmp 3]:=by kernel_rfl
theorem nt39 : Tryz.f39.ntmps = 100:=by kernel_rfl
noncomputable def body40:=bo Tryz.f40
theorem ok40 : FO 40 Tryz.f40 body40 := fo
noncomputable def body41:=bo Tryz.f41
theorem ok41 : FO 41 Tryz.f41 body41 := fo
noncomputable def body42:=bo Tryz.f42
theorem ok42 : FO 42 Tryz.f42 body42 := fo
noncomputable def body43:=bo Tryz.f43
theorem ok43 : FO 43 Tryz.f43 body43 := fo
noncomputable def body44:=bo Tryz.f44
theorem ok44 : FO 44 Tryz.f44 body44 := fo
noncomputable def body45:=bo Tryz.f45
theorem ok45 : FO 45 Tryz.f45 body45 := fo
noncomputable def body46:=bo Tryz.f46
theorem ok46 : FO 46 Tryz.f46 body46 := fo
noncomputable def body47:=bo Tryz.f47
theorem ok47 : FO 47 Tryz.f47 body47 := fo
theorem rs47 : Tryz.f47.results.toList = [.tmp 2, .tmp 3]:=by kernel_rfl
theorem nt47 : Tryz.f47.ntmps = 14:=by kernel_rfl
noncomputable def body48:=bo Tryz.f48
theorem ok48 : FO 48 Tryz.f48 body48 := fo
noncomputable def body49:=bo Tryz.f49
theorem ok49 : FO 49 Tryz.f49 body49 := fo
noncomputable def body50:=bo Tryz.f50
theorem ok50 : FO 50 Tryz.f50 body50 := fo
noncomputable def body51:=bo Tryz.f51
theorem ok51 : FO 51 Tryz.f51 body51 := fo
theorem rs51 : Tryz.f51.results.toList = [.tmp 2, .tmp 3]:=by kernel_rfl
theorem nt51 : Tryz.f51.ntmps = 84:=by kernel_rfl
noncomputable def body52:=bo Tryz.f52
theorem ok52 : FO 52 Tryz.f52 body52 := fo
noncomputable def body53:=bo Tryz.f53
theorem ok53 : FO 53 Tryz.f53 body53 := fo
noncomputable def body54:=bo Tryz.f54
theorem ok54 : FO 54 Tryz.f54 body54 := fo
noncomputable def body55:=bo Tryz.f55
theorem ok55 : FO 55 Tryz.f55 body55 := fo
noncomputable def body56:=bo Tryz.f56
theorem ok56 : FO 56 Tryz.f56 body56 := fo
noncomputable def body57:=bo Tryz.f57
theorem ok57 : FO 57 Tryz.f57 body57 := fo
noncomputable def body58:=bo Tryz.f58
theorem ok58 : FO 58 Tryz.f58 body58 := fo
noncomputable def body59:=bo Tryz.f59
theorem ok59 : FO 59 Tryz.f59 body59 := fo
noncomputable def body60:=bo Tryz.f60
theorem ok60 : FO 60 Tryz.f60 body60 := fo
theorem rs60 : Tryz.f60.results.toList = [.tmp 2]:=by kernel_rfl
theorem nt60 : Tryz.f60.ntmps = 107:=by kernel_rfl
noncomputable def body61:=bo Tryz.f61
theorem ok61 : FO 61 Tryz.f61 body61 := fo
theorem rs61 : Tryz.f61.results.toList = []:=by kernel_rfl
theorem nt61 : Tryz.f61.ntmps = 24:=by kernel_rfl
noncomputable def body62:=bo Tryz.f62
theorem ok62 : FO 62 Tryz.f62 body62 := fo
noncomputable def body63:=bo Tryz.f63
theorem ok63 : FO 63 Tryz.f63 body63 := fo
noncomputable def body64:=bo Tryz.f64
theorem ok64 : FO 64 Tryz.f64 body64 := fo
noncomputable def body65:=bo Tryz.f65
theorem ok65 : FO 65 Tryz.f65 body65 := fo
noncomputable def body66:=bo Tryz.f66
theorem ok66 : FO 66 Tryz.f66 body66 := fo
noncomputable def body67:=bo Tryz.f67
theorem ok67 : FO 67 Tryz.f67 body67 := fo
noncomputable def body68:=bo Tryz.f68
theorem ok68 : FO 68 Tryz.f68 body68 := fo
noncomputable def body69:=bo Tryz.f69
theorem ok69 : FO 69 Tryz.f69 body69 := fo
theorem rs69 : Tryz.f69.results.toList = [.tmp 4]:=by kernel_rfl
theorem nt69 : Tryz.f69.ntmps = 17:=by kernel_rfl
noncomputable def body70:=bo Tryz.f70
theorem ok70 : FO 70 Tryz.f70 body70 := fo
noncomputable def body71:=bo Tryz.f71
theorem ok71 : FO 71 Tryz.f71 body71 := fo
noncomputable def body72:=bo Tryz.f72
theorem ok72 : FO 72 Tryz.f72 body72 := fo
noncomputable def body73:=bo Tryz.f73
theorem ok73 : FO 73 Tryz.f73 body73 := fo
noncomputable def body74:=bo Tryz.f74
theorem ok74 : FO 74 Tryz.f74 body74 := fo
noncomputable def body75:=bo Tryz.f75
theorem ok75 : FO 75 Tryz.f75 body75 := fo
noncomputable def body76:=bo Tryz.f76
theorem ok76 : FO 76 Tryz.f76 body76 := fo
noncomputable def body77:=bo Tryz.f77
theorem ok77 : FO 77 Tryz.f77 body77 := fo
noncomputable def body78:=bo Tryz.f78
theorem ok78 : FO 78 Tryz.f78 body78 := fo
noncomputable def body79:=bo Tryz.f79
theorem ok79 : FO 79 Tryz.f79 body79 := fo
noncomputable def body80:=bo Tryz.f80
theorem ok80 : FO 80 Tryz.f80 body80 := fo
noncomputable def body81:=bo Tryz.f81
theorem ok81 : FO 81 Tryz.f81 body81 := fo
noncomputable def body82:=bo Tryz.f82
theorem ok82 : FO 82 Tryz.f82 body82 := fo
noncomputable def body83:=bo Tryz.f83
theorem ok83 : FO 83 Tryz.f83 body83 := fo
noncomputable def body84:=bo Tryz.f84
theorem ok84 : FO 84 Tryz.f84 body84 := fo
theorem rs84 : Tryz.f84.results.toList = []:=by kernel_rfl
theorem nt84 : Tryz.f84.ntmps = 28:=by kernel_rfl
noncomputable def body85:=bo Tryz.f85
theorem ok85 : FO 85 Tryz.f85 body85 := fo
theorem rs85 : Tryz.f85.results.toList = [.tmp 2]:=by kernel_rfl
theorem nt85 : Tryz.f85.ntmps = 19:=by kernel_rfl
noncomputable def body86:=bo Tryz.f86
theorem ok86 : FO 86 Tryz.f86 body86 := fo
noncomputable def body87:=bo Tryz.f87
theorem ok87 : FO 87 Tryz.f87 body87 := fo
theorem rs87 : Tryz.f87.results.toList = [.tmp 6]:=by kernel_rfl
theorem nt87 : Tryz.f87.ntmps = 21:=by kernel_rfl
noncomputable def body88:=bo Tryz.f88
theorem ok88 : FO 88 Tryz.f88 body88 := fo
noncomputable def body89:=bo Tryz.f89
theorem ok89 : FO 89 Tryz.f89 body89 := fo
theorem rs89 : Tryz.f89.results.toList = []:=by kernel_rfl
theorem nt89 : Tryz.f89.ntmps = 11:=by kernel_rfl
noncomputable def body90:=bo Tryz.f90
theorem ok90 : FO 90 Tryz.f90 body90 := fo
theorem rs90 : Tryz.f90.results.toList = [.tmp 2]:=by kernel_rfl
theorem nt90 : Tryz.f90.ntmps = 61:=by kernel_rfl
noncomputable def body91:=bo Tryz.f91
theorem ok91 : FO 91 Tryz.f91 body91 := fo
noncomputable def body92:=bo Tryz.f92
theorem ok92 : FO 92 Tryz.f92 body92 := fo
noncomputable def body93:=bo Tryz.f93
theorem ok93 : FO 93 Tryz.f93 body93 := fo
noncomputable def body94:=bo Tryz.f94
theorem ok94 : FO 94 Tryz.f94 body94 := fo
theorem rs94 : Tryz.f94.results.toList = [.tmp 4]:=by kernel_rfl
theorem nt94 : Tryz.f94.ntmps = 20:=by kernel_rfl
noncomputable def body95:=bo Tryz.f95
theorem ok95 : FO 95 Tryz.f95 body95 := fo
theorem rs95 : Tryz.f95.results.toList = [.tmp 2]:=by kernel_rfl
theorem nt95 : Tryz.f95.ntmps = 12:=by kernel_rfl
noncomputable def body96:=bo Tryz.f96
theorem ok96 : FO 96 Tryz.f96 body96 := fo
theorem rs96 : Tryz.f96.results.toList = [.tmp 6]:=by kernel_rfl
theorem nt96 : Tryz.f96.ntmps = 15:=by kernel_rfl
noncomputable def body97:=bo Tryz.f97
theorem ok97 : FO 97 Tryz.f97 body97 := fo
theorem rs97 : Tryz.f97.results.toList = [.tmp 2]:=by kernel_rfl
theorem nt97 : Tryz.f97.ntmps = 44:=by kernel_rfl
noncomputable def body98:=bo Tryz.f98
theorem ok98 : FO 98 Tryz.f98 body98 := fo
theorem rs98 : Tryz.f98.results.toList = [.tmp 4]:=by kernel_rfl
theorem nt98 : Tryz.f98.ntmps = 9:=by kernel_rfl
noncomputable def body99:=bo Tryz.f99
theorem ok99 : FO 99 Tryz.f99 body99 := fo
theorem rs99 : Tryz.f99.results.toList = [.tmp 2]:=by kernel_rfl
theorem nt99 : Tryz.f99.ntmps = 6:=by kernel_rfl
noncomputable def body100:=bo Tryz.f100
theorem ok100 : FO 100 Tryz.f100 body100 := fo
theorem rs100 : Tryz.f100.results.toList = [.tmp 4]:=by kernel_rfl
theorem nt100 : Tryz.f100.ntmps = 9:=by kernel_rfl
noncomputable def body101:=bo Tryz.f101
theorem ok101 : FO 101 Tryz.f101 body101 := fo
theorem rs101 : Tryz.f101.results.toList = [.tmp 2]:=by kernel_rfl
theorem nt101 : Tryz.f101.ntmps = 6:=by kernel_rfl
noncomputable def body102:=bo Tryz.f102
theorem ok102 : FO 102 Tryz.f102 body102 := fo
noncomputable def body103:=bo Tryz.f103
theorem ok103 : FO 103 Tryz.f103 body103 := fo
noncomputable def body104:=bo Tryz.f104
theorem ok104 : FO 104 Tryz.f104 body104 := fo
noncomputable def body105:=bo Tryz.f105
theorem ok105 : FO 105 Tryz.f105 body105 := fo
theorem rs105 : Tryz.f105.results.toList = [.tmp 2]:=by kernel_rfl
theorem nt105 : Tryz.f105.ntmps = 8:=by kernel_rfl
noncomputable def body106:=bo Tryz.f106
theorem ok106 : FO 106 Tryz.f106 body106 := fo
noncomputable def body107:=bo Tryz.f107
theorem ok107 : FO 107 Tryz.f107 body107 := fo
noncomputable def body108:=bo Tryz.f108
theorem ok108 : FO 108 Tryz.f108 body108 := fo
noncomputable def body109:=bo Tryz.f109
theorem ok109 : FO 109 Tryz.f109 body109 := fo
noncomputable def body110:=bo Tryz.f110
theorem ok110 : FO 110 Tryz.f110 body110 := fo
noncomputable def body111:=bo Tryz.f111
theorem ok111 : FO 111 Tryz.f111 body111 := fo
noncomputable def body112:=bo Tryz.f112
theorem ok112 : FO 112 Tryz.f112 body112 := fo
noncomputable def body113:=bo Tryz.f113
theorem ok113 : FO 113 Tryz.f113 body113 := fo
noncomputable def body114:=bo Tryz.f114
theorem ok114 : FO 114 Tryz.f114 body114 := fo
noncomputable def body115:=bo Tryz.f115
theorem ok115 : FO 115 Tryz.f115 body115 := fo
theorem rs115 : Tryz.f115.results.toList = [.tmp 2]:=by kernel_rfl
theorem nt115 : Tryz.f115.ntmps = 54:=by kernel_rfl
noncomputable def body116:=bo Tryz.f116
theorem ok116 : FO 116 Tryz.f116 body116 := fo
theorem rs116 : Tryz.f116.results.toList = [.tmp 4]:=by kernel_rfl
theorem nt116 : Tryz.f116.ntmps = 21:=by kernel_rfl
noncomputable def body117:=bo Tryz.f117
theorem ok117 : FO 117 Tryz.f117 body117 := fo
noncomputable def body118:=bo Tryz.f118
theorem ok118 : FO 118 Tryz.f118 body118 := fo
noncomputable def body119:=bo Tryz.f119
theorem ok119 : FO 119 Tryz.f119 body119 := fo
theorem rs119 : Tryz.f119.results.toList = [.tmp 4]:=by kernel_rfl
theorem nt119 : Tryz.f119.ntmps = 9:=by kernel_rfl
noncomputable def body120:=bo Tryz.f120
theorem ok120 : FO 120 Tryz.f120 body120 := fo
noncomputable def body121:=bo Tryz.f121
theorem ok121 : FO 121 Tryz.f121 body121 := fo
noncomputable def body122:=bo Tryz.f122
theorem ok122 : FO 122 Tryz.f122 body122 := fo
noncomputable def body123:=bo Tryz.f123
theorem ok123 : FO 123 Tryz.f123 body123 := fo
noncomputable def body124:=bo Tryz.f124
theorem ok124 : FO 124 Tryz.f124 body124 := fo
noncomputable def body125:=bo Tryz.f125
theorem ok125 : FO 125 Tryz.f125 body125 := fo
noncomputable def body126:=bo Tryz.f126
theorem ok126 : FO 126 Tryz.f126 body126 := fo
noncomputable def body127:=bo Tryz.f127
theorem ok127 : FO 127 Tryz.f127 body127 := fo
noncomputable def body128:=bo Tryz.f128
theorem ok128 : FO 128 Tryz.f128 body128 := fo
noncomputable def body129:=bo Tryz.f129
theorem ok129 : FO 129 Tryz.f129 body129 := fo
noncomputable def body130:=bo Tryz.f130
theorem ok130 : FO 130 Tryz.f130 body130 := fo
theorem rs130 : Tryz.f130.results.toList = [.tmp 4]:=by kernel_rfl
theorem nt130 : Tryz.f130.ntmps = 19:=by kernel_rfl
noncomputable def body131:=bo Tryz.f131
theorem ok131 : FO 131 Tryz.f131 body131 := fo
noncomputable def body132:=bo Tryz.f132
theorem ok132 : FO 132 Tryz.f132 body132 := fo
noncomputable def body133:=bo Tryz.f133
theorem ok133 : FO 133 Tryz.f133 body133 := fo
noncomputable def body134:=bo Tryz.f134
theorem ok134 : FO 134 Tryz.f134 body134 := fo
noncomputable def body135:=bo Tryz.f135
theorem ok135 : FO 135 Tryz.f135 body135 := fo
noncomputable def body136:=bo Tryz.f136
theorem ok136 : FO 136 Tryz.f136 body136 := fo
noncomputable def body137:=bo Tryz.f137
theorem ok137 : FO 137 Tryz.f137 body137 := fo
theorem rs137 : Tryz.f137.results.toList = [.tmp 2]:=by kernel_rfl
theorem nt137 : Tryz.f137.ntmps = 31:=by kernel_rfl
noncomputable def body138:=bo Tryz.f138
theorem ok138 : FO 138 Tryz.f138 body138 := fo
noncomputable def body139:=bo Tryz.f139
theorem ok139 : FO 139 Tryz.f139 body139 := fo
theorem rs139 : Tryz.f139.results.toList = [.tmp 2]:=by kernel_rfl
theorem nt139 : Tryz.f139.ntmps = 33:=by kernel_rfl
noncomputable def body140:=bo Tryz.f140
theorem ok140 : FO 140 Tryz.f140 body140 := fo
theorem rs140 : Tryz.f140.results.toList = [.tmp 2]:=by kernel_rfl
theorem nt140 : Tryz.f140.ntmps = 52:=by kernel_rfl
noncomputable def body141:=bo Tryz.f141
theorem ok141 : FO 141 Tryz.f141 body141 := fo
noncomputable def body142:=bo Tryz.f142
theorem ok142 : FO 142 Tryz.f142 body142 := fo
noncomputable def body143:=bo Tryz.f143
theorem ok143 : FO 143 Tryz.f143 body143 := fo
noncomputable def body144:=bo Tryz.f144
theorem ok144 : FO 144 Tryz.f144 body144 := fo
noncomputable def body145:=bo Tryz.f145
theorem ok145 : FO 145 Tryz.f145 body145 := fo
noncomputable def body146:=bo Tryz.f146
theorem ok146 : FO 146 Tryz.f146 body146 := fo
noncomputable def body147:=bo Tryz.f147
theorem ok147 : FO 147 Tryz.f147 body147 := fo
noncomputable def body148:=bo Tryz.f148
theorem ok148 : FO 148 Tryz.f148 body148 := fo
noncomputable def body149:=bo Tryz.f149
theorem ok149 : FO 149 Tryz.f149 body149 := fo
theorem rs149 : Tryz.f149.results.toList = []:=by kernel_rfl
theorem nt149 : Tryz.f149.ntmps = 36:=by kernel_rfl
noncomputable def body150:=bo Tryz.f150
theorem ok150 : FO 150 Tryz.f150 body150 := fo
noncomputable def body151:=bo Tryz.f151
theorem ok151 : FO 151 Tryz.f151 body151 := fo
theorem rs151 : Tryz.f151.results.toList = []:=by kernel_rfl
theorem nt151 : Tryz.f151.ntmps = 134:=by kernel_rfl
noncomputable def body152:=bo Tryz.f152
theorem ok152 : FO 152 Tryz.f152 body152 := fo
noncomputable def body153:=bo Tryz.f153
theorem ok153 : FO 153 Tryz.f153 body153 := fo
theorem rs153 : Tryz.f153.results.toList = [.tmp 2]:=by kernel_rfl
theorem nt153 : Tryz.f153.ntmps = 190:=by kernel_rfl
noncomputable def body154:=bo Tryz.f154
theorem ok154 : FO 154 Tryz.f154 body154 := fo
theorem rs154 : Tryz.f154.results.toList = [.tmp 2]:=by kernel_rfl
theorem nt154 : Tryz.f154.ntmps = 108:=by kernel_rfl
noncomputable def body155:=bo Tryz.f155
theorem ok155 : FO 155 Tryz.f155 body155 := fo
theorem rs155 : Tryz.f155.results.toList = [.tmp 2]:=by kernel_rfl
theorem nt155 : Tryz.f155.ntmps = 6:=by kernel_rfl
noncomputable def body156:=bo Tryz.f156
theorem ok156 : FO 156 Tryz.f156 body156 := fo
theorem rs156 : Tryz.f156.results.toList = [.tmp 2]:=by kernel_rfl
theorem nt156 : Tryz.f156.ntmps = 4:=by kernel_rfl
noncomputable def body157:=bo Tryz.f157
theorem ok157 : FO 157 Tryz.f157 body157 := fo
theorem rs157 : Tryz.f157.results.toList = [.tmp 4]:=by kernel_rfl
theorem nt157 : Tryz.f157.ntmps = 19:=by kernel_rfl
noncomputable def body158:=bo Tryz.f158
theorem ok158 : FO 158 Tryz.f158 body158 := fo
theorem rs158 : Tryz.f158.results.toList = [.tmp 4]:=by kernel_rfl
theorem nt158 : Tryz.f158.ntmps = 19:=by kernel_rfl
noncomputable def body159:=bo Tryz.f159
theorem ok159 : FO 159 Tryz.f159 body159 := fo
noncomputable def body160:=bo Tryz.f160
theorem ok160 : FO 160 Tryz.f160 body160 := fo
noncomputable def body161:=bo Tryz.f161
theorem ok161 : FO 161 Tryz.f161 body161 := fo
noncomputable def body162:=bo Tryz.f162
theorem ok162 : FO 162 Tryz.f162 body162 := fo
noncomputable def body163:=bo Tryz.f163
theorem ok163 : FO 163 Tryz.f163 body163 := fo
noncomputable def body164:=bo Tryz.f164
theorem ok164 : FO 164 Tryz.f164 body164 := fo
noncomputable def body165:=bo Tryz.f165
theorem ok165 : FO 165 Tryz.f165 body165 := fo
noncomputable def body166:=bo Tryz.f166
theorem ok166 : FO 166 Tryz.f166 body166 := fo
theorem rs166 : Tryz.f166.results.toList = [.tmp 0, .tmp 1]:=by kernel_rfl
theorem nt166 : Tryz.f166.ntmps = 32:=by kernel_rfl
noncomputable def body167:=bo Tryz.f167
theorem ok167 : FO 167 Tryz.f167 body167 := fo
noncomputable def body168:=bo Tryz.f168
theorem ok168 : FO 168 Tryz.f168 body168 := fo
theorem rs168 : Tryz.f168.results.toList = []:=by kernel_rfl
theorem nt168 : Tryz.f168.ntmps = 37:=by kernel_rfl
noncomputable def body169:=bo Tryz.f169
theorem ok169 : FO 169 Tryz.f169 body169 := fo
noncomputable def body170:=bo Tryz.f170
theorem ok170 : FO 170 Tryz.f170 body170 := fo
noncomputable def body171:=bo Tryz.f171
theorem ok171 : FO 171 Tryz.f171 body171 := fo
noncomputable def body172:=bo Tryz.f172
theorem ok172 : FO 172 Tryz.f172 body172 := fo
noncomputable def body173:=bo Tryz.f173
theorem ok173 : FO 173 Tryz.f173 body173 := fo
noncomputable def body174:=bo Tryz.f174
theorem ok174 : FO 174 Tryz.f174 body174 := fo
noncomputable def body175:=bo Tryz.f175
theorem ok175 : FO 175 Tryz.f175 body175 := fo
theorem rs175 : Tryz.f175.results.toList = [.tmp 2]:=by kernel_rfl
theorem nt175 : Tryz.f175.ntmps = 19:=by kernel_rfl
noncomputable def body176:=bo Tryz.f176
theorem ok176 : FO 176 Tryz.f176 body176 := fo
theorem rs176 : Tryz.f176.results.toList = []:=by kernel_rfl
theorem nt176 : Tryz.f176.ntmps = 19:=by kernel_rfl
noncomputable def body177:=bo Tryz.f177
theorem ok177 : FO 177 Tryz.f177 body177 := fo
noncomputable def body178:=bo Tryz.f178
theorem ok178 : FO 178 Tryz.f178 body178 := fo
theorem rs178 : Tryz.f178.results.toList = []:=by kernel_rfl
theorem nt178 : Tryz.f178.ntmps = 49:=by kernel_rfl
noncomputable def body179:=bo Tryz.f179
theorem ok179 : FO 179 Tryz.f179 body179 := fo
noncomputable def body180:=bo Tryz.f180
theorem ok180 : FO 180 Tryz.f180 body180 := fo
noncomputable def body181:=bo Tryz.f181
theorem ok181 : FO 181 Tryz.f181 body181 := fo
noncomputable def body182:=bo Tryz.f182
theorem ok182 : FO 182 Tryz.f182 body182 := fo
noncomputable def body183:=bo Tryz.f183
theorem ok183 : FO 183 Tryz.f183 body183 := fo
noncomputable def body184:=bo Tryz.f184
theorem ok184 : FO 184 Tryz.f184 body184 := fo
theorem rs184 : Tryz.f184.results.toList = [.tmp 4]:=by kernel_rfl
theorem nt184 : Tryz.f184.ntmps = 17:=by kernel_rfl
noncomputable def body185:=bo Tryz.f185
theorem ok185 : FO 185 Tryz.f185 body185 := fo
noncomputable def body186:=bo Tryz.f186
theorem ok186 : FO 186 Tryz.f186 body186 := fo
noncomputable def body187:=bo Tryz.f187
theorem ok187 : FO 187 Tryz.f187 body187 := fo
noncomputable def body188:=bo Tryz.f188
theorem ok188 : FO 188 Tryz.f188 body188 := fo
noncomputable def body189:=bo Tryz.f189
theorem ok189 : FO 189 Tryz.f189 body189 := fo
theorem rs189 : Tryz.f189.results.toList = [.cell 2 133]:=by kernel_rfl
theorem nt189 : Tryz.f189.ntmps = 13:=by kernel_rfl
noncomputable def body190:=bo Tryz.f190
theorem ok190 : FO 190 Tryz.f190 body190 := fo
theorem rs190 : Tryz.f190.results.toList = [.tmp 2]:=by kernel_rfl
theorem nt190 : Tryz.f190.ntmps = 12:=by kernel_rfl
noncomputable def body191:=bo Tryz.f191
theorem ok191 : FO 191 Tryz.f191 body191 := fo
theorem rs191 : Tryz.f191.results.toList = [.tmp 4]:=by kernel_rfl
theorem nt191 : Tryz.f191.ntmps = 9:=by kernel_rfl
noncomputable def body192:=bo Tryz.f192
theorem ok192 : FO 192 Tryz.f192 body192 := fo
theorem rs192 : Tryz.f192.results.toList = [.tmp 4]:=by kernel_rfl
theorem nt192 : Tryz.f192.ntmps = 9:=by kernel_rfl
noncomputable def body193:=bo Tryz.f193
theorem ok193 : FO 193 Tryz.f193 body193 := fo
theorem rs193 : Tryz.f193.results.toList = [.tmp 2]:=by kernel_rfl
theorem nt193 : Tryz.f193.ntmps = 6:=by kernel_rfl
noncomputable def body194:=bo Tryz.f194
theorem ok194 : FO 194 Tryz.f194 body194 := fo
theorem rs194 : Tryz.f194.results.toList = [.tmp 2]:=by kernel_rfl
theorem nt194 : Tryz.f194.ntmps = 12:=by kernel_rfl
noncomputable def body195:=bo Tryz.f195
theorem ok195 : FO 195 Tryz.f195 body195 := fo
theorem rs195 : Tryz.f195.results.toList = [.tmp 4]:=by kernel_rfl
theorem nt195 : Tryz.f195.ntmps = 252:=by kernel_rfl
noncomputable def body196:=bo Tryz.f196
theorem ok196 : FO 196 Tryz.f196 body196 := fo
theorem rs196 : Tryz.f196.results.toList = [.tmp 10]:=by kernel_rfl
theorem nt196 : Tryz.f196.ntmps = 156:=by kernel_rfl
noncomputable def body197:=bo Tryz.f197
theorem ok197 : FO 197 Tryz.f197 body197 := fo
theorem rs197 : Tryz.f197.results.toList = [.tmp 2, .tmp 3]:=by kernel_rfl
theorem nt197 : Tryz.f197.ntmps = 122:=by kernel_rfl
noncomputable def body198:=bo Tryz.f198
theorem ok198 : FO 198 Tryz.f198 body198 := fo
theorem rs198 : Tryz.f198.results.toList = [.cell 4 231, .tmp 5]:=by kernel_rfl
theorem nt198 : Tryz.f198.ntmps = 68:=by kernel_rfl
noncomputable def body199:=bo Tryz.f199
theorem ok199 : FO 199 Tryz.f199 body199 := fo
theorem rs199 : Tryz.f199.results.toList = [.cell 6 231]:=by kernel_rfl
theorem nt199 : Tryz.f199.ntmps = 15:=by kernel_rfl
noncomputable def body200:=bo Tryz.f200
theorem ok200 : FO 200 Tryz.f200 body200 := fo
theorem rs200 : Tryz.f200.results.toList = [.tmp 4]:=by kernel_rfl
theorem nt200 : Tryz.f200.ntmps = 14:=by kernel_rfl
noncomputable def body201:=bo Tryz.f201
theorem ok201 : FO 201 Tryz.f201 body201 := fo
theorem rs201 : Tryz.f201.results.toList = [.tmp 2]:=by kernel_rfl
theorem nt201 : Tryz.f201.ntmps = 9:=by kernel_rfl
noncomputable def body202:=bo Tryz.f202
theorem ok202 : FO 202 Tryz.f202 body202 := fo
theorem rs202 : Tryz.f202.results.toList = []:=by kernel_rfl
theorem nt202 : Tryz.f202.ntmps = 70:=by kernel_rfl
noncomputable def body203:=bo Tryz.f203
theorem ok203 : FO 203 Tryz.f203 body203 := fo
noncomputable def body204:=bo Tryz.f204
theorem ok204 : FO 204 Tryz.f204 body204 := fo
noncomputable def body205:=bo Tryz.f205
theorem ok205 : FO 205 Tryz.f205 body205 := fo
noncomputable def body206:=bo Tryz.f206
theorem ok206 : FO 206 Tryz.f206 body206 := fo
noncomputable def body207:=bo Tryz.f207
theorem ok207 : FO 207 Tryz.f207 body207 := fo
noncomputable def body208:=bo Tryz.f208
theorem ok208 : FO 208 Tryz.f208 body208 := fo
noncomputable def body209:=bo Tryz.f209
theorem ok209 : FO 209 Tryz.f209 body209 := fo
noncomputable def body210:=bo Tryz.f210
theorem ok210 : FO 210 Tryz.f210 body210 := fo
noncomputable def body211:=bo Tryz.f211
theorem ok211 : FO 211 Tryz.f211 body211 := fo
noncomputable def body212:=bo Tryz.f212
theorem ok212 : FO 212 Tryz.f212 body212 := fo
noncomputable def body213:=bo Tryz.f213
theorem ok213 : FO 213 Tryz.f213 body213 := fo
noncomputable def body214:=bo Tryz.f214
theorem ok214 : FO 214 Tryz.f214 body214 := fo
noncomputable def body215:=bo Tryz.f215
theorem ok215 : FO 215 Tryz.f215 body215 := fo
noncomputable def body216:=bo Tryz.f216
theorem ok216 : FO 216 Tryz.f216 body216 := fo
noncomputable def body217:=bo Tryz.f217
theorem ok217 : FO 217 Tryz.f217 body217 := fo
noncomputable def body218:=bo Tryz.f218
theorem ok218 : FO 218 Tryz.f218 body218 := fo
noncomputable def body219:=bo Tryz.f219
theorem ok219 : FO 219 Tryz.f219 body219 := fo
noncomputable def body220:=bo Tryz.f220
theorem ok220 : FO 220 Tryz.f220 body220 := fo
noncomputable def body221:=bo Tryz.f221
theorem ok221 : FO 221 Tryz.f221 body221 := fo
noncomputable def body222:=bo Tryz.f222
theorem ok222 : FO 222 Tryz.f222 body222 := fo
noncomputable def body223:=bo Tryz.f223
theorem ok223 : FO 223 Tryz.f223 body223 := fo
noncomputable def body224:=bo Tryz.f224
theorem ok224 : FO 224 Tryz.f224 body224 := fo
noncomputable def body225:=bo Tryz.f225
theorem ok225 : FO 225 Tryz.f225 body225 := fo
noncomputable def body226:=bo Tryz.f226
theorem ok226 : FO 226 Tryz.f226 body226 := fo
noncomputable def body227:=bo Tryz.f227
theorem ok227 : FO 227 Tryz.f227 body227 := fo
theorem rs227 : Tryz.f227.results.toList = [.tmp 2]:=by kernel_rfl
theorem nt227 : Tryz.f227.ntmps = 6:=by kernel_rfl
noncomputable def body228:=bo Tryz.f228
theorem ok228 : FO 228 Tryz.f228 body228 := fo
theorem rs228 : Tryz.f228.results.toList = [.tmp 4]:=by kernel_rfl
theorem nt228 : Tryz.f228.ntmps = 9:=by kernel_rfl
noncomputable def body229:=bo Tryz.f229
theorem ok229 : FO 229 Tryz.f229 body229 := fo
theorem rs229 : Tryz.f229.results.toList = [.tmp 2]:=by kernel_rfl
theorem nt229 : Tryz.f229.ntmps = 9:=by kernel_rfl
noncomputable def body230:=bo Tryz.f230
theorem ok230 : FO 230 Tryz.f230 body230 := fo
theorem rs230 : Tryz.f230.results.toList = [.tmp 3]:=by kernel_rfl
theorem nt230 : Tryz.f230.ntmps = 11:=by kernel_rfl
noncomputable def body231:=bo Tryz.f231
theorem ok231 : FO 231 Tryz.f231 body231 := fo
theorem rs231 : Tryz.f231.results.toList = [.tmp 4]:=by kernel_rfl
theorem nt231 : Tryz.f231.ntmps = 19:=by kernel_rfl
noncomputable def body232:=bo Tryz.f232
theorem ok232 : FO 232 Tryz.f232 body232 := fo
theorem rs232 : Tryz.f232.results.toList = [.tmp 2]:=by kernel_rfl
theorem nt232 : Tryz.f232.ntmps = 17:=by kernel_rfl
noncomputable def body233:=bo Tryz.f233
theorem ok233 : FO 233 Tryz.f233 body233 := fo
theorem rs233 : Tryz.f233.results.toList = [.tmp 4]:=by kernel_rfl
theorem nt233 : Tryz.f233.ntmps = 12:=by kernel_rfl
noncomputable def body234:=bo Tryz.f234
theorem ok234 : FO 234 Tryz.f234 body234 := fo
theorem rs234 : Tryz.f234.results.toList = [.tmp 4]:=by kernel_rfl
theorem nt234 : Tryz.f234.ntmps = 19:=by kernel_rfl
noncomputable def body235:=bo Tryz.f235
theorem ok235 : FO 235 Tryz.f235 body235 := fo
theorem rs235 : Tryz.f235.results.toList = [.tmp 6]:=by kernel_rfl
theorem nt235 : Tryz.f235.ntmps = 91:=by kernel_rfl
noncomputable def body236:=bo Tryz.f236
theorem ok236 : FO 236 Tryz.f236 body236 := fo
theorem rs236 : Tryz.f236.results.toList = [.tmp 4]:=by kernel_rfl
theorem nt236 : Tryz.f236.ntmps = 50:=by kernel_rfl
noncomputable def body237:=bo Tryz.f237
theorem ok237 : FO 237 Tryz.f237 body237 := fo
theorem rs237 : Tryz.f237.results.toList = [.tmp 4]:=by kernel_rfl
theorem nt237 : Tryz.f237.ntmps = 9:=by kernel_rfl
noncomputable def body238:=bo Tryz.f238
theorem ok238 : FO 238 Tryz.f238 body238 := fo
theorem rs238 : Tryz.f238.results.toList = [.tmp 2]:=by kernel_rfl
theorem nt238 : Tryz.f238.ntmps = 53:=by kernel_rfl
noncomputable def body239:=bo Tryz.f239
theorem ok239 : FO 239 Tryz.f239 body239 := fo
theorem rs239 : Tryz.f239.results.toList = [.tmp 6]:=by kernel_rfl
theorem nt239 : Tryz.f239.ntmps = 26:=by kernel_rfl
noncomputable def body240:=bo Tryz.f240
theorem ok240 : FO 240 Tryz.f240 body240 := fo
theorem rs240 : Tryz.f240.results.toList = [.tmp 4]:=by kernel_rfl
theorem nt240 : Tryz.f240.ntmps = 10:=by kernel_rfl
noncomputable def body241:=bo Tryz.f241
theorem ok241 : FO 241 Tryz.f241 body241 := fo
noncomputable def body242:=bo Tryz.f242
theorem ok242 : FO 242 Tryz.f242 body242 := fo
theorem rs242 : Tryz.f242.results.toList = [.cell 4 231]:=by kernel_rfl
theorem nt242 : Tryz.f242.ntmps = 17:=by kernel_rfl
noncomputable def body243:=bo Tryz.f243
theorem ok243 : FO 243 Tryz.f243 body243 := fo
theorem rs243 : Tryz.f243.results.toList = [.cell 4 231]:=by kernel_rfl
theorem nt243 : Tryz.f243.ntmps = 19:=by kernel_rfl
noncomputable def body244:=bo Tryz.f244
theorem ok244 : FO 244 Tryz.f244 body244 := fo
theorem rs244 : Tryz.f244.results.toList = [.tmp 2]:=by kernel_rfl
theorem nt244 : Tryz.f244.ntmps = 5:=by kernel_rfl
noncomputable def body245:=bo Tryz.f245
theorem ok245 : FO 245 Tryz.f245 body245 := fo
theorem rs245 : Tryz.f245.results.toList = [.cell 4 231]:=by kernel_rfl
theorem nt245 : Tryz.f245.ntmps = 17:=by kernel_rfl
noncomputable def body246:=bo Tryz.f246
theorem ok246 : FO 246 Tryz.f246 body246 := fo
theorem rs246 : Tryz.f246.results.toList = [.tmp 4]:=by kernel_rfl
theorem nt246 : Tryz.f246.ntmps = 23:=by kernel_rfl
noncomputable def body247:=bo Tryz.f247
theorem ok247 : FO 247 Tryz.f247 body247 := fo
theorem rs247 : Tryz.f247.results.toList = [.tmp 2]:=by kernel_rfl
theorem nt247 : Tryz.f247.ntmps = 5:=by kernel_rfl
noncomputable def body248:=bo Tryz.f248
theorem ok248 : FO 248 Tryz.f248 body248 := fo
noncomputable def body249:=bo Tryz.f249
theorem ok249 : FO 249 Tryz.f249 body249 := fo
noncomputable def body250:=bo Tryz.f250
theorem ok250 : FO 250 Tryz.f250 body250 := fo
noncomputable def body251:=bo Tryz.f251
theorem ok251 : FO 251 Tryz.f251 body251 := fo
noncomputable def body252:=bo Tryz.f252
theorem ok252 : FO 252 Tryz.f252 body252 := fo
theorem rs252 : Tryz.f252.results.toList = [.tmp 4]:=by kernel_rfl
theorem nt252 : Tryz.f252.ntmps = 19:=by kernel_rfl
noncomputable def body253:=bo Tryz.f253
theorem ok253 : FO 253 Tryz.f253 body253 := fo
theorem rs253 : Tryz.f253.results.toList = [.tmp 8]:=by kernel_rfl
theorem nt253 : Tryz.f253.ntmps = 41:=by kernel_rfl
noncomputable def body254:=bo Tryz.f254
theorem ok254 : FO 254 Tryz.f254 body254 := fo
theorem rs254 : Tryz.f254.results.toList = [.tmp 4]:=by kernel_rfl
theorem nt254 : Tryz.f254.ntmps = 9:=by kernel_rfl
noncomputable def body255:=bo Tryz.f255
theorem ok255 : FO 255 Tryz.f255 body255 := fo
theorem rs255 : Tryz.f255.results.toList = [.tmp 3]:=by kernel_rfl
theorem nt255 : Tryz.f255.ntmps = 9:=by kernel_rfl
noncomputable def body256:=bo Tryz.f256
theorem ok256 : FO 256 Tryz.f256 body256 := fo
theorem rs256 : Tryz.f256.results.toList = [.tmp 3]:=by kernel_rfl
theorem nt256 : Tryz.f256.ntmps = 14:=by kernel_rfl
noncomputable def body257:=bo Tryz.f257
theorem ok257 : FO 257 Tryz.f257 body257 := fo
theorem rs257 : Tryz.f257.results.toList = [.tmp 2]:=by kernel_rfl
theorem nt257 : Tryz.f257.ntmps = 32:=by kernel_rfl
noncomputable def body258:=bo Tryz.f258
theorem ok258 : FO 258 Tryz.f258 body258 := fo
theorem rs258 : Tryz.f258.results.toList = [.tmp 4]:=by kernel_rfl
theorem nt258 : Tryz.f258.ntmps = 13:=by kernel_rfl
noncomputable def body259:=bo Tryz.f259
theorem ok259 : FO 259 Tryz.f259 body259 := fo
noncomputable def body260:=bo Tryz.f260
theorem ok260 : FO 260 Tryz.f260 body260 := fo
theorem rs260 : Tryz.f260.results.toList = [.tmp 4]:=by kernel_rfl
theorem nt260 : Tryz.f260.ntmps = 19:=by kernel_rfl
end Go.Proofs.Tryz.K
end
section
namespace Go.Proofs.Tryz.K
open Go.Abs
def fldsOf (P : Program) (t : TypeId) : Array Field := match P.underlying t with | some (.struct fs) => fs | _ => #[]
theorem u8 : prog.underlying 8 = some (.struct (fldsOf prog 8)) := by kernel_rfl
theorem u22 : prog.underlying 22 = some (.slice 5) := by kernel_rfl
theorem u66 : prog.underlying 66 = some (.struct (fldsOf prog 66)) := by kernel_rfl
theorem pl66 : ((fldsOf prog 66).toList.map fun f => (f.offset, prog.cellsOf f.type)) = [(0, 1), (1, 1), (2, 1), (3, 1), (4, 1), (5, 1)] := by kernel_rfl
theorem ub66 : ((fldsOf prog 66).toList.all fun f => (prog.info? f.type).isSome) = true := by kernel_rfl
theorem u69 : prog.underlying 69 = some (.struct (fldsOf prog 69)) := by kernel_rfl
theorem pl69 : ((fldsOf prog 69).toList.map fun f => (f.offset, prog.cellsOf f.type)) = [(0, 1), (1, 1), (2, 1), (3, 1), (4, 1), (5, 1), (6, 6), (12, 1), (13, 1), (14, 1)] := by kernel_rfl
theorem ub69 : ((fldsOf prog 69).toList.all fun f => (prog.info? f.type).isSome) = true := by kernel_rfl
theorem u89 : prog.underlying 89 = some (.struct (fldsOf prog 89)) := by kernel_rfl
theorem pl89 : ((fldsOf prog 89).toList.map fun f => (f.offset, prog.cellsOf f.type)) = [(0, 8), (8, 1), (9, 1), (10, 1)] := by kernel_rfl
theorem ub89 : ((fldsOf prog 89).toList.all fun f => (prog.info? f.type).isSome) = true := by kernel_rfl
theorem mk127 : mkeyP prog 127 = 3 := by kernel_rfl
theorem mt127 : mapT prog 127 = true := by kernel_rfl
theorem mk131 : mkeyP prog 131 = 5 := by kernel_rfl
theorem mt131 : mapT prog 131 = true := by kernel_rfl
theorem ml131 : melP prog 131 = 205 := by kernel_rfl
theorem u133 : prog.underlying 133 = some (.struct (fldsOf prog 133)) := by kernel_rfl
theorem pl133 : ((fldsOf prog 133).toList.map fun f => (f.offset, prog.cellsOf f.type)) = [(0, 8), (8, 1), (9, 1)] := by kernel_rfl
theorem ub133 : ((fldsOf prog 133).toList.all fun f => (prog.info? f.type).isSome) = true := by kernel_rfl
theorem u205 : prog.underlying 205 = some (.struct (fldsOf prog 205)) := by kernel_rfl
theorem pl205 : ((fldsOf prog 205).toList.map fun f => (f.offset, prog.cellsOf f.type)) = [(0, 1), (1, 1), (2, 1), (3, 1), (4, 1), (5, 1)] := by kernel_rfl
theorem ub205 : ((fldsOf prog 205).toList.all fun f => (prog.info? f.type).isSome) = true := by kernel_rfl
theorem u2 : prog.underlying 2 = some (.int .i64) := by kernel_rfl
theorem u3 : prog.underlying 3 = some (.int .i64) := by kernel_rfl
theorem u5 : prog.underlying 5 = some (.int .u8) := by kernel_rfl
theorem u189 : prog.underlying 189 = some (.int .u64) := by kernel_rfl
end Go.Proofs.Tryz.K
end
section
namespace Go.Abs
theorem mskip {α : Type} {f : Nat -> α} {k j : Nat} {v r : α} (h : j ≠ k) (hf : f j = r) : up f k v j = r := (up_ne f v h).trans hf
theorem fz_rp {i off sz : Nat} {cs : List D} : sub (fz0 i cs sz) (.rp i off) = .pt (cs.drop off) := by simp [sub, sub1, fz0]
theorem fz_rs {i off n sz : Nat} {cs : List D} : sub (fz0 i cs sz) (.rs i off n) = .sl ((cs.drop off).take (n * sz)) n := by simp [sub, sub1, fz0]
theorem fz_rp_ne {i j off sz : Nat} {cs : List D} (h : j ≠ i) : sub (fz0 i cs sz) (.rp j off) = .rp j off := by simp [sub, sub1, fz0, h]
theorem flat_take {α : Type} {f : α -> List D} {sz : Nat} (hs : ∀ x, (f x).length = sz) : ∀ (l : List α) (k : Nat), (l.flatMap f).take (k * sz) = (l.take k).flatMap f
 | [], k => by simp
 | x :: l, 0 => by simp
 | x :: l, k + 1 => by
  rw [List.flatMap_cons, List.take_succ_cons, List.flatMap_cons, <- flat_take hs l k, show (k + 1) * sz = (f x).length + k * sz by rw [hs x, Nat.add_mul]; omega, List.take_length_add_append]
theorem sl_take {α : Type} {f : α -> List D} {sz k : Nat} {l : List α} (hs : ∀ x, (f x).length = sz) (hk : k <= l.length) :
  D.sl (((l.flatMap f).drop ((0 : Int).toNat * sz)).take (((k : Int) - 0).toNat * sz)) ((k : Int) - 0).toNat = D.sl ((l.take k).flatMap f) (l.take k).length := by
 have h1 : ((k : Int) - 0).toNat = k := by omega
 have h2 : (0 : Int).toNat * sz = 0 := by simp
 rw [h1, h2, List.drop_zero, flat_take hs, List.length_take, Nat.min_eq_left hk]
section
variable {P : Program} {env : Env} {m : Mem} {nx : Nat} {x y z : Operand} {t : TypeId} {v : D}
theorem e_insert {i : Nat} {es : List (Value × D)} {key : Value} {kt : TypeId} (hx : (opd env x).core = .mp i) (hm : m i = some (.map es)) (hk : keyV (opd env y).core = some key) (hz : (opd env z).core = v) (ht : mkeyP P t = kt) :
  Ef P (.insert t x y z) env m nx ⟨mapT P t = true /\ keyP P kt key = true /\ es.all (fun e => keyP P kt e.1) = true, .tup [], [(i, some (.map (putD key v es)))], [i], 0⟩ := by
 refine ⟨?_, rfl, rfl⟩
 show mapPutD P m t (opd env x).core (opd env y).core (opd env z).core = _
 simp only [mapPutD, hk, hx, hm, ht, hz]
variable {n n' : Int} {k : IntKind} {c : Bool} {p : TypeId} {n0 : Nat}
theorem e_gtrK (hx : (opd env x).core = .s (.int k n)) (hy : (opd env y).core = .s (.int k n')) (hd : decide (n' < n) = c) : Ef P (.binOp .gtr t x y p) env m nx ⟨k = k, .s (.bool c), [], [], 0⟩ := by subst hd; exact e_gtr hx hy
theorem e_leqK (hx : (opd env x).core = .s (.int k n)) (hy : (opd env y).core = .s (.int k n')) (hd : decide (n <= n') = c) : Ef P (.binOp .leq t x y p) env m nx ⟨k = k, .s (.bool c), [], [], 0⟩ := by subst hd; exact e_leq hx hy
theorem e_eqlK (hx : (opd env x).core = .s (.int k n)) (hy : (opd env y).core = .s (.int k n')) (hd : (n == n') = c) : Ef P (.binOp .eql t x y p) env m nx ⟨k = k, .s (.bool c), [], [], 0⟩ := by subst hd; exact e_eql hx hy
theorem e_neqK (hx : (opd env x).core = .s (.int k n)) (hy : (opd env y).core = .s (.int k n')) (hd : (n != n') = c) : Ef P (.binOp .neq t x y p) env m nx ⟨k = k, .s (.bool c), [], [], 0⟩ := by subst hd; exact e_neq hx hy
theorem e_quoK (hx : (opd env x).core = .s (.int k n)) (hy : (opd env y).core = .s (.int k n')) {r : Int} (hd : k.wrap (n.tdiv n') = r) : Ef P (.binOp .quo t x y p) env m nx ⟨k = k /\ n' ≠ 0, .s (.int k r), [], [], 0⟩ := by subst hd; exact e_quow hx hy
theorem e_remK (hx : (opd env x).core = .s (.int k n)) (hy : (opd env y).core = .s (.int k n')) {r : Int} (hd : n.tmod n' = r) : Ef P (.binOp .rem t x y p) env m nx ⟨k = k /\ n' ≠ 0, .s (.int k r), [], [], 0⟩ := by subst hd; exact e_rem hx hy
theorem e_geqK (hx : (opd env x).core = .s (.int k n)) (hy : (opd env y).core = .s (.int k n')) (hd : decide (n' <= n) = c) : Ef P (.binOp .geq t x y p) env m nx ⟨k = k, .s (.bool c), [], [], 0⟩ := by subst hd; exact e_geq hx hy
theorem e_idxPi {j i l : Nat} {e : TypeId} {r : Row} (hx : (opd env x).core = .rp j 0) (hy : (opd env y).core = .s (.int k (i : Int))) (hm : m j = some r) (he : elemP P t = e) (hs : P.cellsOf e = 1) (hl : lenP P t = l) :
  Ef P (.indexAddr t x y) env m nx ⟨arT P t = true /\ i < l, .rp j i, [], [j], 0⟩ := by
 have h := e_idxP (P := P) (env := env) (m := m) (nx := nx) (t := t) hx hy hm he hs hl
 have h1 : 0 + ((i : Int)).toNat * 1 = i := by simp
 have h2 : (arT P t = true /\ (0 : Int) <= (i : Int) /\ (i : Int) < l) = (arT P t = true /\ i < l) := by
  apply propext; constructor
  ·rintro ⟨a, _, b⟩; exact ⟨a, by omega⟩
  ·rintro ⟨a, b⟩; exact ⟨a, by omega, by omega⟩
 rw [h1, h2] at h
 exact h
theorem takeW {l : List D} {n : Nat} (h : l.length = n) : (l.drop 0).take n = l := by rw [List.drop_zero, List.take_of_length_le oG]
theorem takeW2 {l : List D} {n : Nat} (h : l.length = n) : l.take n = l := List.take_of_length_le oG
theorem spliceW {z l : List D} (hz : z.length = 20) (hl : l.length = 20) : splice z 0 l = l := by
 unfold splice
 split
 ·simp at hl
 ·rw [List.take_zero, List.nil_append, List.drop_eq_nil_of_le oG, List.append_nil]
theorem e_nilU {es : List D} (hx : (opd env x).core = .sl es 0) : Ef P (.binOp .eql t x (.const (.slice none 0 0)) p) env m nx ⟨slT P t = true, .ub, [], [], 0⟩ := ⟨by simp only [aop, rho, hx, nilD, if_true], rfl, rfl⟩
theorem e_nilF {es : List D} {l : Nat} (hx : (opd env x).core = .sl es l) (hl : l ≠ 0) : Ef P (.binOp .eql t x (.const (.slice none 0 0)) p) env m nx ⟨slT P t = true, .s (.bool false), [], [], 0⟩ := ⟨by simp only [aop, rho, hx, nilD, if_neg hl], rfl, rfl⟩
theorem fr_rs {i off n sz : Nat} {cs es : List D} {e : TypeId} (hs : P.cellsOf e = sz) (h : (cs.drop off).take (n * sz) = es) : frE P [(i, cs, e)] (.rs i off n) = .sl es n := by subst hs h; exact fz_rs
theorem ghost_nil (h : env n0 = .z) : Ghost P ⟨env, m, nx⟩ ⟨envL [(n0, .sl [] 0)], fun _ => none, nx + 1⟩ := by
 have h1 := Ghost.nilrow (P := P) env m nx n0 0 h
 have h2 := ghost_fr (P := P) (env := up env n0 (.rs nx 0 0)) (m := up m nx (some (.cells [] 0))) (nx := nx + 1) [(nx, [], 0)] ⟨up_same _ _ _, trivial⟩ (l := [(n0, .sl [] 0)]) ⟨(congrArg _ (up_same _ _ _)).trans (fr_rs (sz := P.cellsOf 0) rfl (by simp)), trivial⟩
 exact h1.trans h2
theorem sn_z {rds : List Nat} : Sn P rds m .z (.sl [] 0) := fun F β w v _ hv => by
 obtain ⟨x, rfl⟩ := hv.z_inv
 exact .sln x 0
theorem sn_agg {rds : List Nat} {aS bs : List D} (h : Sns P rds m aS bs) : Sn P rds m (.agg aS) (.agg bs) := fun F β w v hl hv => by
 obtain ⟨vs, rfl, hn, hh⟩ := hv.agg_inv
 obtain ⟨h1, h2⟩ := sns_R hl h
 refine .agg _ vs oG fun k d u hd hu => ?_
 have hk : k < aS.length := by rw [h1]; exact (List.getElem?_eq_some_iff.1 hd).1
 exact h2 k aS[k] d (by simp [hk]) hd u (hh k aS[k] u (by simp [hk]) hu)
theorem ghost_to {l : List (Nat × D)} {m' : Mem} (h : EnvHas l env) (hm : ∀ i, m' i = m i \/ m' i = none) : Ghost P ⟨env, m, nx⟩ ⟨envL l, m', nx⟩ := (Ghost.forget env _ m nx (envL_of h)).trans (.drop _ _ _ _ hm)
def FmOk : List (Nat × List (Value × D)) -> Mem -> Prop
 | [], _ => True
 | (i, es) :: fs, m => m i = some (.map es) /\ FmOk fs (fun j => if j = i then none else (m j).map (Row.sub (fm0 i es)))
def fmE : List (Nat × List (Value × D)) -> D -> D
 | [], d => d
 | (i, es) :: fs, d => fmE fs (sub (fm0 i es) d)
theorem ghost_fms : ∀ {fs : List (Nat × List (Value × D))} {env : Env} {m : Mem} {nx : Nat}, FmOk fs m -> ∃ m', Ghost P ⟨env, m, nx⟩ ⟨fun t => fmE fs (env t), m', nx⟩
 | [], env, m, nx, _ => ⟨m, .refl _⟩
 | (i, es) :: fs, env, m, nx, ⟨h1, h2⟩ => by
  obtain ⟨m', h⟩ := ghost_fms (env := fun t => sub (fm0 i es) (env t)) (nx := nx) h2
  exact ⟨m', (Ghost.freezeM env m nx i es h1).trans h⟩
theorem ghost_fm (fs : List (Nat × List (Value × D))) (hf : FmOk fs m) {l : List (Nat × D)} (hl : EnvHas l fun t => fmE fs (env t)) : Ghost P ⟨env, m, nx⟩ ⟨envL l, fun _ => none, nx⟩ := by
 obtain ⟨m', h⟩ := ghost_fms (P := P) (env := env) (nx := nx) hf
 exact h.trans ((Ghost.forget _ _ _ _ (envL_of hl)).trans (Ghost.drop _ _ _ _ fun _ => .inr rfl))
end
end Go.Abs
namespace Go.Argus
open Go.Abs
abbrev I (n : Int) : D := .s (.int .i64 n)
abbrev U8 (n : Int) : D := .s (.int .u8 n)
abbrev B (b : Bool) : D := .s (.bool b)
abbrev S (s : ByteArray) : D := .s (.string s)
abbrev encInts (l : List Int) : D := .sl (l.map I) l.length
abbrev encBytes (l : List Int) : D := .sl (l.map U8) l.length
abbrev encStrs (l : List ByteArray) : D := .sl (l.map S) l.length
structure Ins where
 op : Int
 to : Int
 a : Int
 b : Int
 n : Int
 args : List Int
structure When where
 name : ByteArray
 to : Int
structure End where
 kind : Int
 a : Int
 b : Int
 to : Int
 els : Int
 name : ByteArray
 ins : Ins
 args : List Int
 whens : List When
 others : Int
structure Block where
 ins : List Ins
 fin : End
structure Flow where
 name : ByteArray
 iter : Bool
 args : Int
 result : Int
 regs : List Int
 slots : List Int
 signals : List ByteArray
 blocks : List Block
def encIns (x : Ins) : List D := [U8 x.op, I x.to, I x.a, I x.b, I x.n, encInts x.args]
def encWhen (w : When) : List D := [S w.name, I w.to]
def encWhens (l : List When) : D := .sl (l.flatMap encWhen) l.length
def encInss (l : List Ins) : D := .sl (l.flatMap encIns) l.length
def encEnd (x : End) : List D := [U8 x.kind, I x.a, I x.b, I x.to, I x.els, S x.name, U8 x.ins.op, I x.ins.to, I x.ins.a, I x.ins.b, I x.ins.n, encInts x.ins.args, encInts x.args, encWhens x.whens, I x.others]
def encBlock (b : Block) : List D := encInss b.ins :: encEnd b.fin
def encBlocks (l : List Block) : D := .sl (l.flatMap encBlock) l.length
def encFlow (f : Flow) : List D := [S f.name, B f.iter, I f.args, U8 f.result, encBytes f.regs, encBytes f.slots, encStrs f.signals, encBlocks f.blocks]
def encCode (p q : D) (f : Flow) : List D := [S f.name, B f.iter, I f.args, U8 f.result, encBytes f.regs, encBytes f.slots, encStrs f.signals, encBlocks f.blocks, p, q]
@[simp] theorem len_encCode (p q : D) (x : Flow) : (encCode p q x).length = 10 := rfl
@[simp] theorem len_encIns (x : Ins) : (encIns x).length = 6 := rfl
@[simp] theorem len_encWhen (x : When) : (encWhen x).length = 2 := rfl
@[simp] theorem len_encEnd (x : End) : (encEnd x).length = 15 := rfl
@[simp] theorem len_encBlock (x : Block) : (encBlock x).length = 16 := rfl
@[simp] theorem len_encFlow (x : Flow) : (encFlow x).length = 8 := rfl
theorem len_enc66 (x : Ins) : (encIns x).length = 6 := rfl
theorem len_enc199 (x : When) : (encWhen x).length = 2 := rfl
theorem len_enc72 (x : Block) : (encBlock x).length = 16 := rfl
def idxF {α : Type} (p : α -> Bool) (l : List α) : Int := match l.findIdx? p with
 | some i => i
 | none => -1
theorem idxF_some {α : Type} {p : α -> Bool} {l : List α} {k : Nat} {x : α} (hx : l[k]? = some x) (hp : p x = true) (h : ∀ j y, j < k -> l[j]? = some y -> p y = false) : idxF p l = k := by
 have : l.findIdx? p = some k := by
  rw [List.findIdx?_eq_some_iff_getElem]
  obtain ⟨hk, he⟩ := List.getElem?_eq_some_iff.1 hx
  refine ⟨hk, by rw [he]; exact hp, fun j hj => ?_⟩
  have := h j l[j] hj (by simp [show j < l.length by omega])
  simp [this]
 simp [idxF, this]
theorem idxF_none {α : Type} {p : α -> Bool} {l : List α} (h : ∀ (j : Nat) y, l[j]? = some y -> p y = false) : idxF p l = -1 := by
 have : l.findIdx? p = none := by
  rw [List.findIdx?_eq_none_iff]
  intro x hx
  obtain ⟨j, hj⟩ := List.getElem?_of_mem hx
  exact h j x hj
 simp [idxF, this]
theorem idxF_any {α : Type} (p : α -> Bool) (l : List α) : decide (0 <= idxF p l) = l.any p := by
 unfold idxF
 cases h : l.findIdx? p with
 | none =>
  rw [List.findIdx?_eq_none_iff] at h
  have : l.any p = false := List.any_eq_false.2 fun x hx => by simp [h x hx]
  simp [this]
 | some i =>
  obtain ⟨hi, hp, _⟩ := List.findIdx?_eq_some_iff_getElem.1 h
  have : l.any p = true := List.any_eq_true.2 ⟨l[i], by simp, hp⟩
  simp [this]
theorem tr_ints (l : List Int) : Tr (encInts l) := .sl (.map fun _ => .s _)
theorem tr_bytes (l : List Int) : Tr (encBytes l) := .sl (.map fun _ => .s _)
theorem tr_strs (l : List ByteArray) : Tr (encStrs l) := .sl (.map fun _ => .s _)
theorem trs_ins (x : Ins) : ∀ a ∈ encIns x, Tr a := .cons (.s _) (.cons (.s _) (.cons (.s _) (.cons (.s _) (.cons (.s _) (.cons (tr_ints _) .nil)))))
theorem trs_when (x : When) : ∀ a ∈ encWhen x, Tr a := .cons (.s _) (.cons (.s _) .nil)
theorem tr_whens (l : List When) : Tr (encWhens l) := .sl (.flat trs_when)
theorem tr_inss (l : List Ins) : Tr (encInss l) := .sl (.flat trs_ins)
theorem trs_end (x : End) : ∀ a ∈ encEnd x, Tr a := .cons (.s _) (.cons (.s _) (.cons (.s _) (.cons (.s _) (.cons (.s _) (.cons (.s _) (.cons (.s _) (.cons (.s _) (.cons (.s _) (.cons (.s _) (.cons (.s _) (.cons (tr_ints _) (.cons (tr_ints _) (.cons (tr_whens _) (.cons (.s _) .nil))))))))))))))
theorem trs_block (x : Block) : ∀ a ∈ encBlock x, Tr a := .cons (tr_inss _) (trs_end _)
theorem tr_blocks (l : List Block) : Tr (encBlocks l) := .sl (.flat trs_block)
theorem trs_flow (x : Flow) : ∀ a ∈ encFlow x, Tr a := .cons (.s _) (.cons (.s _) (.cons (.s _) (.cons (.s _) (.cons (tr_bytes _) (.cons (tr_bytes _) (.cons (tr_strs _) (.cons (tr_blocks _) .nil)))))))
theorem trs_code {p q : D} (hp : Tr p) (hq : Tr q) (x : Flow) : ∀ a ∈ encCode p q x, Tr a := .cons (.s _) (.cons (.s _) (.cons (.s _) (.cons (.s _) (.cons (tr_bytes _) (.cons (tr_bytes _) (.cons (tr_strs _) (.cons (tr_blocks _) (.cons hp (.cons hq .nil)))))))))
theorem tr_code {p q : D} (hp : Tr p) (hq : Tr q) (x : Flow) : Tr (.agg (encCode p q x)) := .agg (trs_code hp hq x)
theorem one_code {p q : D} {f : Flow} (h1 : p.one = true) (h2 : q.one = true) : (encCode p q f).all D.one = true := by
 simp only [encCode, List.all_cons, List.all_nil, h1, h2]; rfl
abbrev U64 (n : Int) : D := .s (.int .u64 n)
abbrev encW (w : List Int) : D := .agg (w.map U64)
theorem oneW (w : List Int) : (w.map U64).all D.one = true := List.all_eq_true.2 fun x hx => by obtain ⟨y, _, rfl⟩ := List.mem_map.1 hx; rfl
theorem oneW_set {w : List Int} {i : Nat} {x : Int} : ((w.map U64).set i (U64 x)).all D.one = true := by rw [<- List.map_set]; exact oneW _
theorem tr_w (w : List Int) : Tr (encW w) := .agg (.map fun _ => .s _)
def andU (a b : Int) : Int := intBitsV .and .u64 a b
def orU (a b : Int) : Int := intBitsV .or .u64 a b
def withW (w : List Int) (m : Nat) : List Int := w.set (m / 64) (orU (w.getD (m / 64) 0) (IntKind.u64.wrap (1 * 2 ^ (min (m % 64) 64))))
def hasW (w : List Int) (m : Nat) : Bool := andU ((w.getD (m / 64) 0).fdiv (2 ^ (min (m % 64) 64))) 1 == 1
def withI (w : List Int) (n : Int) : List Int := if 0 <= n then withW w n.toNat else w
def meetK (w v : List Int) : Nat -> List Int
 | 0 => w
 | k + 1 => (meetK w v k).set k (andU ((meetK w v k).getD k 0) (v.getD k 0))
def meetW (w v : List Int) : List Int := meetK w v 20
@[simp] theorem len_meetK (w v : List Int) : ∀ k, (meetK w v k).length = w.length
 | 0 => rfl
 | k + 1 => by simp [meetK, len_meetK w v k]
@[simp] theorem len_withW (w : List Int) (m : Nat) : (withW w m).length = w.length := by simp [withW]
@[simp] theorem len_withI (w : List Int) (n : Int) : (withI w n).length = w.length := by unfold withI; split <;> simp
@[simp] theorem len_meetW (w v : List Int) : (meetW w v).length = w.length := len_meetK w v 20
theorem wrap_i64 {n : Nat} (h : n < 2 ^ 62) : IntKind.i64.wrap (n : Int) = n := by
 unfold IntKind.wrap
 simp [IntKind.signed, IntKind.bits]
 omega
theorem quo64 {m : Nat} (h : m < 2 ^ 62) : IntKind.i64.wrap ((m : Int).tdiv 64) = ((m / 64 : Nat) : Int) := by
 rw [show (m : Int).tdiv 64 = ((m / 64 : Nat) : Int) from by rw [Int.tdiv_eq_ediv_of_nonneg oG]; omega]
 exact wrap_i64 oG
theorem rem64 (m : Nat) : (m : Int).tmod 64 = ((m % 64 : Nat) : Int) := by rw [Int.tmod_eq_emod_of_nonneg oG]; omega
theorem ib (a b : Int) : (a == b) = decide (a = b) := rfl
def inR (n a b : Int) : Bool := decide (a <= n) && decide (n <= b)
def flowByte (b : Int) : Bool := decide (b < 33) || decide (126 < b)
def isFlow (s : ByteArray) : Bool := inR s.size 1 120 && !(strBytes s).any flowByte
def nameByte (b : Int) : Bool := (decide (b < 97) || decide (122 < b)) && (decide (b < 48) || decide (57 < b))
def isName (s : ByteArray) : Bool := inR s.size 1 12 && !(strBytes s).any nameByte
def kindByte (most k : Int) : Bool := decide (k < 1) || decide (most < k)
def kindsOk (l : List Int) (most : Int) : Bool := !l.any (kindByte most)
def kindR (l : List Int) (r : Int) : Int := if 0 <= r then l.getD r.toNat 0 else 0
theorem kindR_in {l : List Int} {i : Nat} {x : Int} (h : l[i]? = some x) : kindR l i = x := by
 simp [kindR, List.getD_eq_getElem?_getD, h]
theorem kindR_out {l : List Int} {r : Int} (h : ¬ (0 <= r /\ r < l.length)) : kindR l r = 0 := by
 unfold kindR
 split
 ·rename_i h0
  have : l.length <= r.toNat := by omega
  simp [List.getD_eq_getElem?_getD, List.getElem?_eq_none this]
 ·rfl
theorem inR_true {n a b : Int} : inR n a b = true ↔ a <= n /\ n <= b := by simp [inR]
theorem inR_false {n a b : Int} : inR n a b = false ↔ ¬ (a <= n /\ n <= b) := by
 rw [<- Bool.not_eq_true, inR_true]
def valueR (l : List Int) (r : Int) : Bool := kindR l r == 1 || kindR l r == 2
def valuesR (l rs : List Int) : Bool := rs.all (valueR l)
def slotR (l slots : List Int) (r n : Int) : Bool := inR n 0 (slots.length - 1) && (kindR l r == kindR slots n)
def fieldR (l : List Int) (r want of : Int) : Bool :=
 if want = 0 then r == 0 else if want = 1 then kindR l r == 1 else if want = 2 then kindR l r == 2 else if want = 3 then valueR l r
 else kindR l r != 0 && kindR l r == of
structure Shape where
 to : Int
 a : Int
 b : Int
 args : Int
 low : Int
 high : Int
def encShape (s : Shape) : List D := [I s.to, I s.a, I s.b, I s.args, I s.low, I s.high]
@[simp] theorem len_encShape (x : Shape) : (encShape x).length = 6 := rfl
theorem trs_shape (x : Shape) : ∀ a ∈ encShape x, Tr a := .cons (.s _) (.cons (.s _) (.cons (.s _) (.cons (.s _) (.cons (.s _) (.cons (.s _) .nil)))))
def shapedOf (l : List Int) (x : Ins) (s : Shape) : Int := if s.to = 0 \/ s.to = 1 then kindR l x.a else kindR l x.to
def shapedArgs (l : List Int) (x : Ins) (s : Shape) : Bool := if s.args = 5 then inR x.args.length 1 6 && valuesR l x.args else if s.args = 6 then decide ((x.args.length : Int) = 1) && valuesR l x.args else decide ((x.args.length : Int) = 0)
def shapedR (l : List Int) (x : Ins) (s : Shape) : Bool :=
 fieldR l x.to s.to 0 && (fieldR l x.a s.a (shapedOf l x s) && (fieldR l x.b s.b (shapedOf l x s) && (shapedArgs l x s && inR x.n s.low s.high)))
def imOf (l : List (Int × Shape)) : List (Value × D) := l.map fun x => (.int .u8 x.1, .agg (encShape x.2))
def noShape : Shape := ⟨0, 0, 0, 0, 0, 0⟩
def shapeAt (l : List (Int × Shape)) (op : Int) : Option Shape := (l.find? fun x => x.1 == op).map (·.2)
def plainT : List (Int × Shape) := [(1, ⟨1, 0, 0, 0, -1000000000, 1000000000⟩), (2, ⟨3, 4, 0, 0, 0, 0⟩), (3, ⟨1, 1, 1, 0, 0, 0⟩), (4, ⟨1, 1, 1, 0, 0, 0⟩), (5, ⟨1, 3, 4, 0, 0, 0⟩), (6, ⟨1, 1, 1, 0, 0, 0⟩), (7, ⟨1, 1, 1, 0, 0, 0⟩), (8, ⟨1, 1, 0, 0, 0, 0⟩),
 (9, ⟨2, 0, 0, 0, 0, 1⟩), (10, ⟨2, 0, 0, 5, 0, 5⟩), (11, ⟨3, 2, 0, 0, 0, 5⟩), (12, ⟨0, 2, 3, 0, 0, 5⟩), (13, ⟨1, 2, 0, 0, 0, 0⟩), (14, ⟨1, 2, 0, 0, 0, 0⟩), (15, ⟨0, 1, 0, 0, 0, 0⟩)]
def triesT : List (Int × Shape) := [(30, ⟨1, 1, 1, 0, 0, 0⟩), (31, ⟨1, 1, 1, 0, 0, 0⟩), (32, ⟨1, 1, 1, 0, 0, 0⟩), (33, ⟨1, 1, 1, 0, 0, 0⟩), (34, ⟨1, 1, 1, 0, 0, 0⟩), (35, ⟨0, 2, 3, 0, 0, 0⟩), (36, ⟨3, 2, 0, 0, 0, 0⟩), (37, ⟨3, 2, 1, 0, 0, 0⟩), (38, ⟨0, 2, 1, 6, 0, 0⟩)]
theorem tr_im (l : List (Int × Shape)) : Tr (.im (imOf l)) := .im fun x hx => by
 obtain ⟨y, _, rfl⟩ := List.mem_map.1 hx
 exact .agg (trs_shape _)
theorem look_im (op : Int) : ∀ l : List (Int × Shape), (lookD (.int .u8 op) (imOf l)).map (·.2) = (shapeAt l op).map fun s => .agg (encShape s)
 | [] => rfl
 | (o, s) :: l => by
  have ih := look_im op l
  unfold imOf at ih ⊢
  simp only [List.map_cons, lookD, veq, veq1, shapeAt, List.find?_cons] at ih ⊢
  by_cases h : o = op
  ·subst h; simp
  ·have hb : (o == op) = false := by simpa using h
   simp only [hb, beq_self_eq_true, Bool.and_false, Bool.false_eq_true, if_false, Option.map_map] at ih ⊢
   exact ih
theorem got_im {P : Program} {t : TypeId} {z0 : D} (hz : zeroD P (melP P t) = z0) (op : Int) (l : List (Int × Shape)) (hz' : z0 = .agg (encShape noShape)) : gotD P t true (lookD (.int .u8 op) (imOf l)) = .tup [.agg (encShape ((shapeAt l op).getD noShape)), .s (.bool (shapeAt l op).isSome)] := by
 have h := look_im op l
 cases h1 : lookD (.int .u8 op) (imOf l) with
 | none =>
  rw [h1] at h
  have : shapeAt l op = none := by simpa using h.symm
  simp only [gotD, this, hz, hz', Option.getD_none, Option.isSome_none, if_true]
 | some x =>
  rw [h1] at h
  cases h2 : shapeAt l op with
  | none => rw [h2] at h; simp at h
  | some s =>
   rw [h2] at h
   obtain ⟨i, d⟩ := x
   simp only [Option.map_some, Option.some.injEq] at h
   subst h
   simp [gotD]
theorem keys_im {P : Program} {kt : TypeId} (hk : P.underlying kt = some (.int .u8)) (l : List (Int × Shape)) : (imOf l).all (fun e => keyP P kt e.1) = true := by
 refine List.all_eq_true.2 fun x hx => ?_
 obtain ⟨y, _, rfl⟩ := List.mem_map.1 hx
 simp [keyP, hk]
def eqb (a b : Int) : Bool := decide (a = b)
def noArgs (x : Ins) : Bool := decide ((x.args.length : Int) = 0)
def rightB (f : Flow) (b : Int) (x : Ins) (phis : Bool) (ahead : Int) : Bool :=
 if x.op = 16 then eqb x.to 0 && (eqb (kindR f.regs x.a) 3 && (eqb x.b 0 && (eqb x.n 0 && noArgs x)))
 else if x.op = 17 then eqb x.a 0 && (eqb x.b 0 && (noArgs x && slotR f.regs f.slots x.to x.n))
 else if x.op = 18 then eqb x.to 0 && (eqb x.b 0 && (noArgs x && slotR f.regs f.slots x.a x.n))
 else if x.op = 19 then phis && (decide (0 < b) && (valueR f.regs x.to && (eqb x.a 0 && (eqb x.b 0 && (eqb x.n 0 && (eqb x.args.length ahead && !x.args.any fun r => !eqb (kindR f.regs r) (kindR f.regs x.to)))))))
 else (shapeAt plainT x.op).isSome && shapedR f.regs x ((shapeAt plainT x.op).getD noShape)
def noInsB (x : Ins) : Bool := decide (x.op = 0) && (decide (x.to = 0) && (decide (x.a = 0) && (decide (x.b = 0) && (decide (x.n = 0) && decide ((x.args.length : Int) = 0)))))
def bareB (x : End) : Bool := decide (x.kind = 0) && (decide (x.a = 0) && (decide (x.b = 0) && (decide (x.to = 0) && (decide (x.els = 0) && (x.name.toList == [] && (decide (x.others = -1) && (decide ((x.args.length : Int) = 0) && (decide ((x.whens.length : Int) = 0) && noInsB x.ins))))))))
def blockR (f : Flow) (n : Int) : Bool := inR n 0 (f.blocks.length - 1)
def whenB (f : Flow) (ws : List When) (i : Nat) (w : When) : Bool := isName w.name && (blockR f w.to && !(ws.take i).any fun v => v.name.toList == w.name.toList)
def whensB (f : Flow) (ws : List When) : Bool := ws.zipIdx.all fun x => whenB f ws x.2 x.1
theorem whensB_true {f : Flow} {ws : List When} (h : ∀ (i : Nat) w, ws[i]? = some w -> whenB f ws i w = true) : whensB f ws = true := by
 refine List.all_eq_true.2 fun x hx => ?_
 obtain ⟨h1, h2⟩ := List.mem_zipIdx' hx
 exact h x.2 x.1 (by rw [h2]; simp [h1])
theorem whensB_false {f : Flow} {ws : List When} {i : Nat} {w : When} (hw : ws[i]? = some w) (h : whenB f ws i w = false) : whensB f ws = false := by
 refine Bool.eq_false_iff.2 fun ht => ?_
 have hx : (w, i) ∈ ws.zipIdx := List.mem_zipIdx_iff_getElem?.2 hw
 have := List.all_eq_true.1 ht _ hx
 rw [h] at this
 cases this
def handlesB (f : Flow) (x : End) : Bool := whensB f x.whens && (decide ((x.whens.length : Int) <= 7) && (decide (x.others = -1) || blockR f x.others))
def noIns0 : Ins := ⟨0, 0, 0, 0, 0, []⟩
def endOk (f : Flow) (x : End) : Bool × End :=
 let r : End := { x with kind := 0 }
 if x.kind = 1 then (blockR f x.to, { r with to := 0 })
 else if x.kind = 2 then (eqb (kindR f.regs x.a) 1 && (blockR f x.to && blockR f x.els), { r with a := 0, to := 0, els := 0 })
 else if x.kind = 3 then (if f.result ≠ 0 /\ f.iter = false then eqb (kindR f.regs x.a) f.result else eqb x.a (-1), { r with a := 0 })
 else if x.kind = 4 then (isName x.name, { r with name := .empty })
 else if x.kind = 5 then ((shapeAt triesT x.ins.op).isSome && (shapedR f.regs x.ins ((shapeAt triesT x.ins.op).getD noShape) && (blockR f x.to && handlesB f x)), { r with ins := noIns0, to := 0, whens := [], others := -1 })
 else if x.kind = 6 then (isFlow x.name && (decide ((x.args.length : Int) <= 6) && (valuesR f.regs x.args && ((eqb x.a (-1) || valueR f.regs x.a) && (blockR f x.to && handlesB f x)))), { r with name := .empty, args := [], a := 0, to := 0, whens := [], others := -1 })
 else if x.kind = 7 then (isFlow x.name && (decide ((x.args.length : Int) <= 6) && (valuesR f.regs x.args && (eqb (kindR f.regs x.a) 3 && blockR f x.to))), { r with name := .empty, args := [], a := 0, to := 0 })
 else if x.kind = 8 then (eqb (kindR f.regs x.a) 3 && (valueR f.regs x.b && (blockR f x.to && (blockR f x.els && handlesB f x))), { r with a := 0, b := 0, to := 0, els := 0, whens := [], others := -1 })
 else if x.kind = 9 then (f.iter && (eqb (kindR f.regs x.a) f.result && blockR f x.to), { r with a := 0, to := 0 })
 else (false, r)
def isIn (l : List Int) (n : Int) : Bool := l.any fun c => n == c
def slotPlace (n : Int) : Int := 1200 + n
def writesL1 : List Int := [1, 2, 3, 4, 5, 6, 7, 8, 9, 10, 11, 13, 14, 17, 19]
def writesL2 : List Int := [30, 31, 32, 33, 34, 36, 37]
def writesR (x : Ins) : Int := if isIn writesL1 x.op then x.to else if isIn writesL2 x.op then x.to else -1
def writesEnd (x : End) : Int := if x.kind = 5 then writesR x.ins else if isIn [6, 7] x.kind then x.a else if x.kind = 8 then x.b else -1
def readsL1 : List Int := [2, 8, 11, 13, 14, 15, 16, 18, 36]
def readsL2 : List Int := [3, 4, 5, 6, 7, 12, 30, 31, 32, 33, 34, 35, 37]
def readsR (x : Ins) : List Int := if isIn readsL1 x.op then [x.a] else if isIn readsL2 x.op then [x.a, x.b] else if x.op = 10 then x.args else if x.op = 38 then x.a :: x.b :: x.args else []
def readsEnd (x : End) : List Int := if isIn [2, 8, 9] x.kind then [x.a] else if x.kind = 3 then (if x.a ≠ -1 then [x.a] else []) else if x.kind = 5 then readsR x.ins else if isIn [6, 7] x.kind then x.args else []
def endedB (f : Flow) (x : End) : Bool := (endOk f x).1 && bareB (endOk f x).2
end Go.Argus
end
section
namespace Go.Proofs.Tryz.K
open Go.Abs
def codeB : Nat -> Nat -> Code -> Code
 | 0, _, c => c
 | k + 1, p, c => bif Nat.beq p 1 then c else match c with
  | .seq a b => bif Nat.beq (p % 2) 0 then codeB k (p / 2) a else codeB k (p / 2) b
  | .cond _ a b => bif Nat.beq (p % 2) 0 then codeB k (p / 2) a else codeB k (p / 2) b
  | .block _ b => codeB k (p / 2) b
  | .loop b => codeB k (p / 2) b
  | .scope b => codeB k (p / 2) b
  | .rangeFunc _ _ a b => bif Nat.beq (p % 2) 0 then codeB k (p / 2) a else codeB k (p / 2) b
  | c => c
def Z (b : Code) (p : Nat) : Array Oper := match codeB 64 p b with
 | .region _ ops _ => ops
 | _ => #[]
abbrev G (i : Nat) (o : Array Oper) : Code := .region i o false
theorem sk96 : body96 = (.seq (G 0 (Z body96 2)) (.seq (G 1 (Z body96 5)) .ret)):=by kernel_rfl
theorem sk194 : body194 = (.seq (G 0 (Z body194 2)) (.seq (G 1 (Z body194 5)) .ret)):=by kernel_rfl
theorem sk228 : body228 = (.seq (G 0 (Z body228 2)) (.seq (G 1 (Z body228 5)) .ret)):=by kernel_rfl
theorem sk232 : body232 = (.seq (G 0 (Z body232 2)) (.seq (G 1 (Z body232 5)) .ret)):=by kernel_rfl
theorem sk252 : body252 = (.seq (G 0 (Z body252 2)) (.seq (.seq (G 1 (Z body252 9)) (.block 0 (.loop (.seq (G 2 (Z body252 69)) (.seq (.cond (.tmp 9) .skip (.exit 0)) (.seq (.block 1 (.seq (G 3 (Z body252 1125)) (.seq (G 4 (Z body252 2661)) (.cond (.tmp 16) (.seq (G 5 (Z body252 9829)) .ret) .skip)))) (G 6 (Z body252 485)))))))) (.seq (G 7 (Z body252 11)) .ret))):=by kernel_rfl
theorem sk246 : body246 = (.seq (G 0 (Z body246 2)) (.seq (G 1 (Z body246 5)) (.seq (.seq (G 2 (Z body246 19)) (.block 0 (.rangeFunc (.tmp 8) #[9] (G 3 (Z body246 75)) (.block 1 (.seq (G 4 (Z body246 299)) (.cond (.tmp 12) (G 5 (Z body246 683)) .skip)))))) (.seq (G 6 (Z body246 23)) .ret)))):=by kernel_rfl
theorem sk202 : body202 = (.seq (.seq (G 0 (Z body202 4)) (.cond (.tmp 19) .ret .skip)) (.seq (.seq (G 1 (Z body202 9)) (.cond (.tmp 34) .ret .skip)) (.seq (.seq (G 2 (Z body202 19)) (.block 0 (.loop (.seq (G 3 (Z body202 139)) (.seq (.cond (.tmp 39) .skip (.exit 0)) (.seq (.block 1 (.seq (G 4 (Z body202 2251)) (.seq (G 5 (Z body202 5323)) (.cond (.tmp 46) .ret .skip)))) (G 6 (Z body202 971)))))))) (.seq (G 7 (Z body202 23)) (.cond (.tmp 65) (G 8 (Z body202 47)) .skip))))):=by kernel_rfl
theorem sk156 : body156 = (.seq (G 0 (Z body156 2)) (.seq (G 1 (Z body156 5)) .ret)):=by kernel_rfl
theorem sk231 : body231 = (.seq (G 0 (Z body231 2)) (.seq (.seq (G 1 (Z body231 9)) (.block 0 (.loop (.seq (G 2 (Z body231 69)) (.seq (.cond (.tmp 9) .skip (.exit 0)) (.seq (.block 1 (.seq (G 3 (Z body231 1125)) (.seq (G 4 (Z body231 2661)) (.cond (.tmp 16) (.seq (G 5 (Z body231 9829)) .ret) .skip)))) (G 6 (Z body231 485)))))))) (.seq (G 7 (Z body231 11)) .ret))):=by kernel_rfl
theorem sk192 : body192 = (.seq (G 0 (Z body192 2)) (.seq (G 1 (Z body192 5)) .ret)):=by kernel_rfl
theorem sk157 : body157 = (.seq (G 0 (Z body157 2)) (.seq (.seq (G 1 (Z body157 9)) (.block 0 (.loop (.seq (G 2 (Z body157 69)) (.seq (.cond (.tmp 9) .skip (.exit 0)) (.seq (.block 1 (.seq (G 3 (Z body157 1125)) (.seq (G 4 (Z body157 2661)) (.cond (.tmp 16) (.seq (G 5 (Z body157 9829)) .ret) .skip)))) (G 6 (Z body157 485)))))))) (.seq (G 7 (Z body157 11)) .ret))):=by kernel_rfl
theorem sk98 : body98 = (.seq (G 0 (Z body98 2)) (.seq (G 1 (Z body98 5)) .ret)):=by kernel_rfl
theorem sk158 : body158 = (.seq (G 0 (Z body158 2)) (.seq (.seq (G 1 (Z body158 9)) (.block 0 (.loop (.seq (G 2 (Z body158 69)) (.seq (.cond (.tmp 9) .skip (.exit 0)) (.seq (.block 1 (.seq (G 3 (Z body158 1125)) (.seq (G 4 (Z body158 2661)) (.cond (.tmp 16) (.seq (G 5 (Z body158 9829)) .ret) .skip)))) (G 6 (Z body158 485)))))))) (.seq (G 7 (Z body158 11)) .ret))):=by kernel_rfl
theorem sk100 : body100 = (.seq (G 0 (Z body100 2)) (.seq (G 1 (Z body100 5)) .ret)):=by kernel_rfl
theorem sk260 : body260 = (.seq (G 0 (Z body260 2)) (.seq (.seq (G 1 (Z body260 9)) (.block 0 (.loop (.seq (G 2 (Z body260 69)) (.seq (.cond (.tmp 9) .skip (.exit 0)) (.seq (.block 1 (.seq (G 3 (Z body260 1125)) (.seq (G 4 (Z body260 2661)) (.cond (.tmp 16) (.seq (G 5 (Z body260 9829)) .ret) .skip)))) (G 6 (Z body260 485)))))))) (.seq (G 7 (Z body260 11)) .ret))):=by kernel_rfl
theorem sk254 : body254 = (.seq (G 0 (Z body254 2)) (.seq (G 1 (Z body254 5)) .ret)):=by kernel_rfl
theorem sk130 : body130 = (.seq (G 0 (Z body130 2)) (.seq (.seq (G 1 (Z body130 9)) (.block 0 (.loop (.seq (G 2 (Z body130 69)) (.seq (.cond (.tmp 9) .skip (.exit 0)) (.seq (.block 1 (.seq (G 3 (Z body130 1125)) (.seq (G 4 (Z body130 2661)) (.cond (.tmp 16) (.seq (G 5 (Z body130 9829)) .ret) .skip)))) (G 6 (Z body130 485)))))))) (.seq (G 7 (Z body130 11)) .ret))):=by kernel_rfl
theorem sk119 : body119 = (.seq (G 0 (Z body119 2)) (.seq (G 1 (Z body119 5)) .ret)):=by kernel_rfl
theorem sk229 : body229 = (.seq (G 0 (Z body229 2)) (.seq (G 1 (Z body229 5)) .ret)):=by kernel_rfl
theorem sk190 : body190 = (.seq (G 0 (Z body190 2)) (.seq (G 1 (Z body190 5)) .ret)):=by kernel_rfl
theorem sk193 : body193 = (.seq (G 0 (Z body193 2)) (.seq (G 1 (Z body193 5)) .ret)):=by kernel_rfl
theorem sk230 : body230 = (.seq (G 0 (Z body230 2)) (.seq (G 1 (Z body230 5)) .ret)):=by kernel_rfl
theorem sk191 : body191 = (.seq (G 0 (Z body191 2)) (.seq (G 1 (Z body191 5)) .ret)):=by kernel_rfl
theorem sk189 : body189 = (.seq (G 0 (Z body189 2)) (.seq (G 1 (Z body189 5)) (.seq (G 2 (Z body189 11)) .ret))):=by kernel_rfl
theorem sk166 : body166 = (.seq (G 0 (Z body166 2)) (.seq (G 1 (Z body166 5)) (.seq (G 2 (Z body166 11)) (.seq (G 3 (Z body166 23)) .ret)))):=by kernel_rfl
theorem sk233 : body233 = (.seq (G 0 (Z body233 2)) (.seq (G 1 (Z body233 5)) .ret)):=by kernel_rfl
theorem sk234 : body234 = (.seq (G 0 (Z body234 2)) (.seq (.seq (G 1 (Z body234 9)) (.cond (.tmp 12) (.seq (G 2 (Z body234 37)) .ret) .skip)) (.seq (G 3 (Z body234 11)) .ret))):=by kernel_rfl
theorem sk235 : body235 = (.seq (G 0 (Z body235 2)) (.seq (G 1 (Z body235 5)) (.seq (.seq (G 2 (Z body235 19)) (.cond (.tmp 20) (G 3 (Z body235 43)) .skip)) (.seq (G 4 (Z body235 23)) (.seq (.seq (G 5 (Z body235 79)) (.block 0 (.seq (G 6 (Z body235 303)) (.cond (.tmp 31) (G 7 (Z body235 687)) (.seq (G 8 (Z body235 1455)) (.cond (.tmp 43) (G 9 (Z body235 2991)) .skip)))))) (.seq (G 10 (Z body235 95)) .ret)))))):=by kernel_rfl
theorem sk236 : body236 = (.seq (G 0 (Z body236 2)) (.seq (.seq (G 1 (Z body236 9)) (.block 0 (.loop (.seq (G 2 (Z body236 69)) (.seq (.cond (.tmp 11) .skip (.exit 0)) (.seq (.block 1 (.seq (G 3 (Z body236 1125)) (.seq (G 4 (Z body236 2661)) (.cond (.tmp 33) (.seq (G 5 (Z body236 9829)) .ret) .skip)))) (G 6 (Z body236 485)))))))) (.seq (G 7 (Z body236 11)) .ret))):=by kernel_rfl
theorem sk237 : body237 = (.seq (G 0 (Z body237 2)) (.seq (G 1 (Z body237 5)) .ret)):=by kernel_rfl
theorem di_r239_1 : drawInfo (Z body239 5) = some [(10, 11), (10, 12), (10, 13), (10, 15), (10, 16)]:=by kernel_rfl
theorem sk239 : body239 = (.seq (G 0 (Z body239 2)) (.seq (.region 1 (Z body239 5) true) .ret)):=by kernel_rfl
theorem di_r240_1 : drawInfo (Z body240 5) = some [(2, 3)]:=by kernel_rfl
theorem sk240 : body240 = (.seq (G 0 (Z body240 2)) (.seq (.region 1 (Z body240 5) true) .ret)):=by kernel_rfl
theorem sk253 : body253 = (.seq (G 0 (Z body253 2)) (.seq (G 1 (Z body253 5)) (.seq (.seq (G 2 (Z body253 19)) (.block 0 (.seq (G 3 (Z body253 75)) (.cond (.tmp 14) (.seq (G 4 (Z body253 299)) .ret) (.seq (G 5 (Z body253 363)) (.cond (.tmp 18) (.seq (G 6 (Z body253 1259)) .ret) (.seq (G 7 (Z body253 1515)) (.cond (.tmp 22) (.seq (G 8 (Z body253 5099)) .ret) (.seq (G 9 (Z body253 6123)) (.cond (.tmp 26) (.seq (G 10 (Z body253 20459)) .ret) .skip)))))))))) (.seq (G 11 (Z body253 23)) .ret)))):=by kernel_rfl
theorem sk255 : body255 = (.seq (G 0 (Z body255 2)) (.seq (G 1 (Z body255 5)) .ret)):=by kernel_rfl
theorem sk256 : body256 = (.seq (G 0 (Z body256 2)) (.seq (G 1 (Z body256 5)) .ret)):=by kernel_rfl
theorem sk238 : body238 = (.seq (G 0 (Z body238 2)) (.seq (G 1 (Z body238 5)) .ret)):=by kernel_rfl
theorem sk257 : body257 = (.seq (G 0 (Z body257 2)) (.seq (G 1 (Z body257 5)) .ret)):=by kernel_rfl
theorem di_r195_11 : drawInfo (Z body195 47063) = some [(3, 4), (3, 5), (3, 6)]:=by kernel_rfl
theorem di_r195_28 : drawInfo (Z body195 25165783) = some [(7, 8), (7, 9), (7, 10)]:=by kernel_rfl
theorem sk195 : body195 = (.seq (G 0 (Z body195 2)) (.seq (G 1 (Z body195 5)) (.seq (G 2 (Z body195 11)) (.seq (.seq (G 3 (Z body195 39)) (.block 0 (.seq (G 4 (Z body195 151)) (.cond (.tmp 13) (G 5 (Z body195 343)) (.seq (G 6 (Z body195 727)) (.cond (.tmp 20) (G 7 (Z body195 1495)) (.seq (G 8 (Z body195 3031)) (.cond (.tmp 42) (.seq (G 9 (Z body195 10199)) (.seq (G 10 (Z body195 22487)) (.cond (.tmp 57) (.region 11 (Z body195 47063) true) .skip))) (.seq (G 12 (Z body195 12247)) (.cond (.tmp 66) (G 13 (Z body195 24535)) (.seq (G 14 (Z body195 49111)) (.cond (.tmp 72) (.seq (G 15 (Z body195 163799)) (.seq (G 16 (Z body195 360407)) (G 17 (Z body195 491479)))) (.seq (G 18 (Z body195 196567)) (.cond (.tmp 107) (.seq (G 19 (Z body195 655319)) (G 20 (Z body195 917463))) (.seq (G 21 (Z body195 786391)) (.cond (.tmp 153) (.seq (G 22 (Z body195 2621399)) (G 23 (Z body195 3669975))) (.seq (G 24 (Z body195 3145687)) (.cond (.tmp 187) (.seq (G 25 (Z body195 10485719)) (G 26 (Z body195 14680023))) (.seq (G 27 (Z body195 12582871)) (.cond (.tmp 224) (.region 28 (Z body195 25165783) true) .skip)))))))))))))))))))) (.seq (G 29 (Z body195 47)) .ret))))):=by kernel_rfl
theorem sk196 : body196 = (.seq (G 0 (Z body196 2)) (.seq (.seq (G 1 (Z body196 9)) (.block 0 (.seq (G 2 (Z body196 37)) (.cond (.tmp 17) (.seq (G 3 (Z body196 149)) .ret) (.seq (G 4 (Z body196 181)) (.cond (.tmp 45) (.seq (G 5 (Z body196 629)) .ret) (.seq (G 6 (Z body196 757)) (.cond (.tmp 69) (.seq (G 7 (Z body196 2549)) .ret) (.seq (G 8 (Z body196 3061)) (.cond (.tmp 93) (.seq (G 9 (Z body196 10229)) (.seq (G 10 (Z body196 22517)) (.seq (G 11 (Z body196 47093)) .ret))) .skip)))))))))) (.seq (G 12 (Z body196 11)) (.seq (G 13 (Z body196 23)) .ret)))):=by kernel_rfl
theorem di_r153_10 : drawInfo (Z body153 8799) = some []:=by kernel_rfl
theorem di_r153_32 : drawInfo (Z body153 751724031) = some []:=by kernel_rfl
theorem sk153 : body153 = (.seq (G 0 (Z body153 2)) (.seq (G 1 (Z body153 5)) (.seq (G 2 (Z body153 11)) (.seq (.seq (G 3 (Z body153 39)) (.cond (.tmp 71) (.seq (G 4 (Z body153 151)) .ret) .skip)) (.seq (.seq (G 5 (Z body153 79)) (.cond (.tmp 101) (.seq (G 6 (Z body153 303)) .ret) .skip)) (.seq (.seq (G 7 (Z body153 159)) (.block 0 (.loop (.seq (.seq (G 8 (Z body153 2143)) (.cond (.tmp 106) .skip (.exit 0))) (.seq (.block 1 (.seq (.region 10 (Z body153 8799) true) (.cond (.tmp 120) (.seq (G 11 (Z body153 37471)) .ret) .skip))) (G 9 (Z body153 3679))))))) (.seq (G 12 (Z body153 191)) (.seq (.seq (G 13 (Z body153 639)) (.block 2 (.loop (.seq (G 14 (Z body153 4479)) (.seq (.cond (.tmp 126) .skip (.exit 2)) (.seq (.block 3 (.seq (G 15 (Z body153 72063)) (.seq (.seq (G 16 (Z body153 301439)) (.cond (.tmp 139) (.seq (G 17 (Z body153 1218943)) .ret) .skip)) (.seq (G 18 (Z body153 366975)) (.cond (.tmp 143) (.seq (.seq (G 19 (Z body153 2333055)) (.cond (.tmp 148) (.seq (G 20 (Z body153 9673087)) .ret) .skip)) (G 21 (Z body153 1808767))) .skip))))) (G 22 (Z body153 31103)))))))) (.seq (G 23 (Z body153 767)) (.seq (.seq (G 24 (Z body153 2559)) (.block 4 (.loop (.seq (G 25 (Z body153 17919)) (.seq (.cond (.tmp 160) .skip (.exit 4)) (.seq (.block 5 (.seq (G 26 (Z body153 288255)) (.seq (G 27 (Z body153 681471)) (.seq (G 28 (Z body153 1467903)) (.block 6 (.loop (.seq (G 29 (Z body153 9332223)) (.seq (.cond (.tmp 168) .skip (.exit 6)) (.seq (.block 7 (.seq (G 30 (Z body153 147744255)) (.seq (G 31 (Z body153 349070847)) (.seq (.region 32 (Z body153 751724031) true) (.cond (.tmp 187) (.seq (G 33 (Z body153 2630772223)) .ret) .skip))))) (G 34 (Z body153 63858175))))))))))) (G 35 (Z body153 124415)))))))) (.seq (G 36 (Z body153 3071)) .ret))))))))))):=by kernel_rfl
theorem sk97 : body97 = (.seq (G 0 (Z body97 2)) (.seq (G 1 (Z body97 5)) (.seq (.seq (G 2 (Z body97 19)) (.block 0 (.loop (.seq (G 3 (Z body97 139)) (.seq (.cond (.tmp 18) .skip (.exit 0)) (.seq (.block 1 (.seq (G 4 (Z body97 2251)) (.seq (G 5 (Z body97 5323)) (.block 2 (.loop (.seq (G 6 (Z body97 36043)) (.seq (.cond (.tmp 28) .skip (.exit 2)) (.seq (.block 3 (.seq (G 7 (Z body97 576715)) (G 8 (Z body97 838859)))) (G 9 (Z body97 249035)))))))))) (G 10 (Z body97 971)))))))) (.seq (G 11 (Z body97 23)) .ret)))):=by kernel_rfl
theorem sk155 : body155 = (.seq (G 0 (Z body155 2)) (.seq (G 1 (Z body155 5)) .ret)):=by kernel_rfl
theorem di_r199_2 : drawInfo (Z body199 37) = some [(0, 2)]:=by kernel_rfl
theorem sk199 : body199 = (.seq (G 0 (Z body199 2)) (.seq (.seq (G 1 (Z body199 9)) (.cond (.tmp 9) (.seq (.region 2 (Z body199 37) true) .ret) .skip)) (.seq (G 3 (Z body199 11)) .ret))):=by kernel_rfl
theorem di_r198_10 : drawInfo (Z body198 11467) = some [(6, 9)]:=by kernel_rfl
theorem sk198 : body198 = (.seq (G 0 (Z body198 2)) (.seq (G 1 (Z body198 5)) (.seq (.seq (G 2 (Z body198 19)) (.block 0 (.loop (.seq (G 3 (Z body198 139)) (.seq (.cond (.tmp 17) .skip (.exit 0)) (.seq (.block 1 (.seq (G 4 (Z body198 2251)) (.seq (.seq (G 5 (Z body198 9419)) (.block 2 (.loop (.seq (G 6 (Z body198 70859)) (.seq (.cond (.tmp 24) .skip (.exit 2)) (.seq (.block 3 (.seq (G 7 (Z body198 1152203)) (G 8 (Z body198 1676491)))) (G 9 (Z body198 496843)))))))) (.seq (.region 10 (Z body198 11467) true) (G 11 (Z body198 15563)))))) (G 12 (Z body198 971)))))))) (.seq (.seq (G 13 (Z body198 39)) (.block 4 (.loop (.seq (G 14 (Z body198 279)) (.seq (.cond (.tmp 56) .skip (.exit 4)) (.seq (.block 5 (.seq (G 15 (Z body198 4503)) (G 16 (Z body198 6551)))) (G 17 (Z body198 1943)))))))) (.seq (G 18 (Z body198 47)) .ret))))):=by kernel_rfl
theorem di_r245_2 : drawInfo (Z body245 37) = some [(0, 3)]:=by kernel_rfl
theorem di_r245_3 : drawInfo (Z body245 11) = some [(0, 2)]:=by kernel_rfl
theorem sk245 : body245 = (.seq (G 0 (Z body245 2)) (.seq (.seq (G 1 (Z body245 9)) (.cond (.tmp 7) (.seq (.region 2 (Z body245 37) true) .ret) .skip)) (.seq (.region 3 (Z body245 11) true) .ret))):=by kernel_rfl
theorem di_r242_2 : drawInfo (Z body242 21) = some []:=by kernel_rfl
theorem sk242 : body242 = (.seq (G 0 (Z body242 2)) (.seq (.seq (G 1 (Z body242 9)) (.cond (.tmp 6) (.region 2 (Z body242 21) true) .skip)) (.seq (G 3 (Z body242 11)) .ret))):=by kernel_rfl
theorem di_r243_4 : drawInfo (Z body243 1637) = some []:=by kernel_rfl
theorem sk243 : body243 = (.seq (G 0 (Z body243 2)) (.seq (.seq (G 1 (Z body243 9)) (.block 0 (.loop (.seq (G 2 (Z body243 69)) (.seq (.cond (.tmp 7) .skip (.exit 0)) (.seq (.block 1 (.seq (G 3 (Z body243 1125)) (.region 4 (Z body243 1637) true))) (G 5 (Z body243 485)))))))) (.seq (G 6 (Z body243 11)) .ret))):=by kernel_rfl
theorem sk200 : body200 = (.seq (G 0 (Z body200 2)) (.seq (G 1 (Z body200 5)) .ret)):=by kernel_rfl
theorem sk244 : body244 = (.seq (G 0 (Z body244 2)) (.seq (G 1 (Z body244 5)) .ret)):=by kernel_rfl
theorem di_r197_1 : drawInfo (Z body197 5) = some [(4, 5), (4, 6), (4, 7), (4, 8)]:=by kernel_rfl
theorem di_r197_20 : drawInfo (Z body197 5872223) = some []:=by kernel_rfl
theorem di_r197_24 : drawInfo (Z body197 2792987231) = some [(2, 8), (3, 8)]:=by kernel_rfl
theorem di_r197_25 : drawInfo (Z body197 6014212703) = some []:=by kernel_rfl
theorem sk197 : body197 = (.seq (G 0 (Z body197 2)) (.seq (.region 1 (Z body197 5) true) (.seq (.seq (G 2 (Z body197 19)) (.block 0 (.loop (.seq (G 3 (Z body197 139)) (.seq (.cond (.tmp 29) .skip (.exit 0)) (.seq (.block 1 (.seq (G 4 (Z body197 2251)) (G 5 (Z body197 3275)))) (G 6 (Z body197 971)))))))) (.seq (G 7 (Z body197 23)) (.seq (.seq (G 8 (Z body197 79)) (.block 2 (.loop (.seq (G 9 (Z body197 559)) (.seq (.cond (.tmp 45) .skip (.exit 2)) (.seq (.block 3 (.seq (G 10 (Z body197 9007)) (G 11 (Z body197 13103)))) (G 12 (Z body197 3887)))))))) (.seq (.seq (G 13 (Z body197 159)) (.block 4 (.loop (.seq (.seq (G 14 (Z body197 2143)) (.cond (.tmp 55) .skip (.exit 4))) (.block 5 (.seq (G 15 (Z body197 4703)) (.seq (G 16 (Z body197 10847)) (.block 6 (.loop (.seq (G 17 (Z body197 72287)) (.seq (.cond (.tmp 61) .skip (.exit 6)) (.seq (.block 7 (.seq (G 18 (Z body197 1153631)) (.seq (.seq (G 19 (Z body197 4823647)) (.cond (.tmp 69) (.exit 7) .skip)) (.seq (.region 20 (Z body197 5872223) true) (.seq (G 21 (Z body197 12163679)) (.block 8 (.loop (.seq (G 22 (Z body197 75078239)) (.seq (.cond (.tmp 85) .skip (.exit 8)) (.seq (.block 9 (.seq (G 23 (Z body197 1182374495)) (.seq (.region 24 (Z body197 2792987231) true) (.seq (.region 25 (Z body197 6014212703) true) (.cond (.tmp 110) (G 26 (Z body197 12456663647)) .skip))))) (G 27 (Z body197 511285855)))))))))))) (G 28 (Z body197 498271)))))))))))))) (.seq (G 29 (Z body197 191)) .ret))))))):=by kernel_rfl
theorem di_r154_7 : drawInfo (Z body154 157277) = some []:=by kernel_rfl
theorem di_r154_17 : drawInfo (Z body154 22340560477) = some []:=by kernel_rfl
theorem di_r154_18 : drawInfo (Z body154 48110364253) = some [(14, 15), (14, 16), (14, 18), (14, 19)]:=by kernel_rfl
theorem sk154 : body154 = (.seq (G 0 (Z body154 2)) (.scope (.seq (G 1 (Z body154 9)) (.seq (G 2 (Z body154 21)) (.seq (.label 0) (.seq (.seq (G 3 (Z body154 157)) (.block 0 (.loop (.seq (G 4 (Z body154 1117)) (.seq (.cond (.tmp 28) .skip (.exit 0)) (.seq (.block 1 (.seq (G 5 (Z body154 18013)) (.seq (.seq (G 6 (Z body154 75357)) (.cond (.tmp 36) (.exit 1) .skip)) (.seq (.seq (.region 7 (Z body154 157277) true) (.seq (G 8 (Z body154 353885)) (.cond (.tmp 47) (.seq (G 9 (Z body154 1271389)) .ret) .skip))) (.seq (G 10 (Z body154 190045)) (.block 2 (.loop (.seq (G 11 (Z body154 1173085)) (.seq (.cond (.tmp 52) .skip (.exit 2)) (.seq (.block 3 (.seq (G 12 (Z body154 18474589)) (.seq (.seq (G 13 (Z body154 77194845)) (.cond (.tmp 57) (.exit 1) .skip)) (.seq (G 14 (Z body154 93972061)) (.block 4 (.loop (.seq (G 15 (Z body154 597288541)) (.seq (.cond (.tmp 64) .skip (.exit 4)) (.seq (.block 5 (.seq (G 16 (Z body154 9455658589)) (.seq (.region 17 (Z body154 22340560477) true) (.seq (.region 18 (Z body154 48110364253) true) (.cond (.tmp 104) (.seq (G 19 (Z body154 168369448541)) .ret) .skip))))) (G 20 (Z body154 4086949469))))))))))) (G 21 (Z body154 7988829)))))))))))) (G 22 (Z body154 7773)))))))) (.seq (G 23 (Z body154 189)) .ret))))))):=by kernel_rfl
theorem sk95 : body95 = (.seq (G 0 (Z body95 2)) (.seq (.block 0 (.seq (G 1 (Z body95 17)) (.cond (.tmp 3) (.seq (G 2 (Z body95 73)) .ret) (.seq (G 3 (Z body95 89)) (.cond (.tmp 7) (.seq (G 4 (Z body95 313)) .ret) .skip))))) (.seq (G 5 (Z body95 11)) .ret))):=by kernel_rfl
theorem sk139 : body139 = (.seq (G 0 (Z body139 2)) (.seq (.seq (G 1 (Z body139 9)) (.block 0 (.seq (.seq (G 2 (Z body139 69)) (.cond (.tmp 5) .skip (.seq (G 3 (Z body139 357)) (.cond (.tmp 5) .skip (.seq (G 4 (Z body139 1509)) (.cond (.tmp 5) .skip (.seq (G 5 (Z body139 6117)) (.cond (.tmp 5) .skip (.seq (G 6 (Z body139 24549)) (.cond (.tmp 5) .skip (.seq (G 7 (Z body139 98277)) (.cond (.tmp 5) .skip (.seq (G 8 (Z body139 393189)) (.cond (.tmp 5) .skip (.seq (G 9 (Z body139 1572837)) (.cond (.tmp 5) .skip (.seq (G 10 (Z body139 6291429)) (.cond (.tmp 5) .skip (.seq (G 11 (Z body139 25165797)) (.cond (.tmp 5) .skip (.seq (G 12 (Z body139 100663269)) (.cond (.tmp 5) .skip (.seq (G 13 (Z body139 402653157)) (.cond (.tmp 5) .skip (.seq (G 14 (Z body139 1610612709)) (.cond (.tmp 5) .skip (.seq (G 15 (Z body139 6442450917)) (.cond (.tmp 5) .skip (G 16 (Z body139 17179869157)))))))))))))))))))))))))))))) (.cond (.tmp 5) (.seq (G 17 (Z body139 149)) .ret) (.seq (.seq (G 18 (Z body139 309)) (.cond (.tmp 23) .skip (.seq (G 19 (Z body139 1461)) (.cond (.tmp 23) .skip (.seq (G 20 (Z body139 6069)) (.cond (.tmp 23) .skip (.seq (G 21 (Z body139 24501)) (.cond (.tmp 23) .skip (.seq (G 22 (Z body139 98229)) (.cond (.tmp 23) .skip (.seq (G 23 (Z body139 393141)) (.cond (.tmp 23) .skip (G 24 (Z body139 1048501)))))))))))))) (.cond (.tmp 23) (.seq (G 25 (Z body139 629)) .ret) .skip)))))) (.seq (G 26 (Z body139 11)) .ret))):=by kernel_rfl
theorem sk140 : body140 = (.seq (G 0 (Z body140 2)) (.seq (.seq (G 1 (Z body140 9)) (.block 0 (.seq (.seq (G 2 (Z body140 69)) (.cond (.tmp 5) .skip (.seq (G 3 (Z body140 357)) (.cond (.tmp 5) .skip (.seq (G 4 (Z body140 1509)) (.cond (.tmp 5) .skip (.seq (G 5 (Z body140 6117)) (.cond (.tmp 5) .skip (.seq (G 6 (Z body140 24549)) (.cond (.tmp 5) .skip (.seq (G 7 (Z body140 98277)) (.cond (.tmp 5) .skip (.seq (G 8 (Z body140 393189)) (.cond (.tmp 5) .skip (.seq (G 9 (Z body140 1572837)) (.cond (.tmp 5) .skip (G 10 (Z body140 4194277)))))))))))))))))) (.cond (.tmp 5) (.seq (G 11 (Z body140 149)) .ret) (.seq (.seq (G 12 (Z body140 309)) (.cond (.tmp 18) .skip (.seq (G 13 (Z body140 1461)) (.cond (.tmp 18) .skip (.seq (G 14 (Z body140 6069)) (.cond (.tmp 18) .skip (.seq (G 15 (Z body140 24501)) (.cond (.tmp 18) .skip (.seq (G 16 (Z body140 98229)) (.cond (.tmp 18) .skip (.seq (G 17 (Z body140 393141)) (.cond (.tmp 18) .skip (.seq (G 18 (Z body140 1572789)) (.cond (.tmp 18) .skip (.seq (G 19 (Z body140 6291381)) (.cond (.tmp 18) .skip (.seq (G 20 (Z body140 25165749)) (.cond (.tmp 18) .skip (.seq (G 21 (Z body140 100663221)) (.cond (.tmp 18) .skip (.seq (G 22 (Z body140 402653109)) (.cond (.tmp 18) .skip (.seq (G 23 (Z body140 1610612661)) (.cond (.tmp 18) .skip (G 24 (Z body140 4294967221)))))))))))))))))))))))))) (.cond (.tmp 18) (.seq (G 25 (Z body140 629)) .ret) (.seq (G 26 (Z body140 757)) (.cond (.tmp 37) (.seq (G 27 (Z body140 2549)) .ret) (.seq (G 28 (Z body140 3061)) (.cond (.tmp 42) (.seq (G 29 (Z body140 10229)) .ret) .skip)))))))))) (.seq (G 30 (Z body140 11)) .ret))):=by kernel_rfl
theorem sk137 : body137 = (.seq (G 0 (Z body137 2)) (.seq (.seq (G 1 (Z body137 9)) (.block 0 (.seq (.seq (G 2 (Z body137 69)) (.cond (.tmp 5) .skip (.seq (G 3 (Z body137 357)) (.cond (.tmp 5) .skip (G 4 (Z body137 997)))))) (.cond (.tmp 5) (.seq (G 5 (Z body137 149)) .ret) (.seq (G 6 (Z body137 181)) (.cond (.tmp 12) (.seq (G 7 (Z body137 629)) (.cond (.tmp 16) (.seq (G 8 (Z body137 2421)) .ret) .skip)) (.seq (G 9 (Z body137 757)) (.cond (.tmp 20) (.seq (G 10 (Z body137 2549)) .ret) (.seq (.seq (G 11 (Z body137 5109)) (.cond (.tmp 25) .skip (G 12 (Z body137 15349)))) (.cond (.tmp 25) (.seq (G 13 (Z body137 10229)) .ret) .skip)))))))))) (.seq (G 14 (Z body137 11)) .ret))):=by kernel_rfl
theorem sk175 : body175 = (.seq (G 0 (Z body175 2)) (.seq (.seq (G 1 (Z body175 9)) (.block 0 (.seq (G 2 (Z body175 37)) (.cond (.tmp 5) (.seq (G 3 (Z body175 149)) .ret) (.seq (.seq (G 4 (Z body175 309)) (.cond (.tmp 10) .skip (G 5 (Z body175 949)))) (.cond (.tmp 10) (.seq (G 6 (Z body175 629)) .ret) (.seq (G 7 (Z body175 757)) (.cond (.tmp 15) (.seq (G 8 (Z body175 2549)) .ret) .skip)))))))) (.seq (G 9 (Z body175 11)) .ret))):=by kernel_rfl
theorem sk105 : body105 = (.seq (G 0 (Z body105 2)) (.seq (.seq (G 1 (Z body105 9)) (.cond (.tmp 4) (.seq (G 2 (Z body105 37)) .ret) .skip)) (.seq (G 3 (Z body105 11)) .ret))):=by kernel_rfl
theorem sk89 : body89 = (.seq (G 0 (Z body89 2)) (G 1 (Z body89 3))):=by kernel_rfl
theorem sk151 : body151 = (.seq (G 0 (Z body151 2)) (.seq (G 1 (Z body151 5)) (.block 0 (.loop (.block 1 (.seq (G 2 (Z body151 67)) (.seq (.seq (G 3 (Z body151 291)) (.cond (.tmp 23) (.seq (G 4 (Z body151 1187)) .ret) .skip)) (.seq (.seq (G 5 (Z body151 611)) (.cond (.tmp 29) (.seq (G 6 (Z body151 2403)) .ret) .skip)) (.seq (.seq (G 7 (Z body151 1251)) (.cond (.tmp 35) (.seq (G 8 (Z body151 4835)) (G 9 (Z body151 6883))) .skip)) (.seq (G 10 (Z body151 1507)) (.seq (.seq (G 11 (Z body151 5091)) (.cond (.tmp 50) (.seq (G 12 (Z body151 19427)) (.seq (G 13 (Z body151 44003)) (G 14 (Z body151 60387)))) .skip)) (.seq (.seq (G 15 (Z body151 10211)) (.cond (.tmp 68) (.seq (G 16 (Z body151 38883)) (.cond (.tmp 72) .ret .skip)) .skip)) (.seq (.seq (.region 17 (Z body151 20451) true) (.cond (.tmp 87) (.seq (G 18 (Z body151 77795)) (.seq (G 19 (Z body151 176099)) (.exit 1))) .skip)) (.seq (G 20 (Z body151 24547)) (.seq (G 21 (Z body151 49123)) (.seq (G 22 (Z body151 98275)) (.seq (G 23 (Z body151 196579)) (.seq (G 24 (Z body151 393187)) (.cond (.tmp 113) (.seq (G 25 (Z body151 1310691)) (.seq (G 26 (Z body151 2883555)) (G 27 (Z body151 3932131)))) (.seq (G 28 (Z body151 1572835)) (.seq (G 29 (Z body151 3145699)) (G 30 (Z body151 4194275))))))))))))))))))))))):=by kernel_rfl
theorem di_r178_4 : drawInfo (Z body178 2121) = some []:=by kernel_rfl
theorem di_r178_6 : drawInfo (Z body178 4681) = some []:=by kernel_rfl
theorem sk178 : body178 = (.seq (G 0 (Z body178 2)) (.block 0 (.loop (.seq (.seq (G 1 (Z body178 33)) (.cond (.tmp 12) .skip (.exit 0))) (.seq (.block 1 (.seq (G 3 (Z body178 137)) (.block 2 (.loop (.seq (.seq (.region 4 (Z body178 2121) true) (.cond (.tmp 30) .skip (.exit 2))) (.seq (.block 3 (.region 6 (Z body178 4681) true)) (G 5 (Z body178 3657)))))))) (G 2 (Z body178 57))))))):=by kernel_rfl
theorem sk184 : body184 = (.seq (G 0 (Z body184 2)) (.seq (G 1 (Z body184 5)) .ret)):=by kernel_rfl
theorem sk227 : body227 = (.seq (G 0 (Z body227 2)) (.seq (G 1 (Z body227 5)) .ret)):=by kernel_rfl
theorem di_r90_6 : drawInfo (Z body90 1099) = some []:=by kernel_rfl
theorem di_r90_11 : drawInfo (Z body90 1124939) = some []:=by kernel_rfl
theorem sk90 : body90 = (.seq (G 0 (Z body90 2)) (.seq (.seq (G 1 (Z body90 9)) (.cond (.tmp 8) (.seq (G 2 (Z body90 37)) .ret) .skip)) (.seq (.seq (G 3 (Z body90 19)) (.block 0 (.loop (.seq (.seq (G 4 (Z body90 267)) (.cond (.tmp 13) .skip (.exit 0))) (.seq (.block 1 (.seq (.region 6 (Z body90 1099) true) (.cond (.tmp 25) (.seq (G 7 (Z body90 4683)) (.seq (.seq (G 8 (Z body90 19019)) (.block 2 (.loop (.seq (.seq (G 9 (Z body90 272971)) (.cond (.tmp 32) .skip (.exit 2))) (.seq (.block 3 (.seq (.region 11 (Z body90 1124939) true) (.cond (.tmp 44) (.seq (G 12 (Z body90 4794955)) (G 13 (Z body90 6892107))) .skip))) (G 10 (Z body90 469579))))))) (.seq (G 14 (Z body90 23115)) (.seq (G 15 (Z body90 47691)) .ret)))) .skip))) (G 5 (Z body90 459))))))) (.seq (G 16 (Z body90 23)) .ret)))):=by kernel_rfl
theorem sk201 : body201 = (.seq (G 0 (Z body201 2)) (.seq (G 1 (Z body201 5)) (.seq (G 2 (Z body201 11)) (.seq (G 3 (Z body201 23)) .ret)))):=by kernel_rfl
theorem sk247 : body247 = (.seq (G 0 (Z body247 2)) (.seq (G 1 (Z body247 5)) .ret)):=by kernel_rfl
theorem sk258 : body258 = (.seq (G 0 (Z body258 2)) (.seq (.seq (G 1 (Z body258 9)) (.block 0 (.rangeFunc (.tmp 6) #[7] (G 2 (Z body258 37)) (.block 1 (G 3 (Z body258 85)))))) (.seq (G 4 (Z body258 11)) .ret))):=by kernel_rfl
theorem sk115 : body115 = (.seq (G 0 (Z body115 2)) (.seq (G 1 (Z body115 5)) (.seq (.seq (G 2 (Z body115 19)) (.cond (.tmp 13) (G 3 (Z body115 43)) .skip)) (.seq (.seq (G 4 (Z body115 39)) (.cond (.tmp 26) (G 5 (Z body115 87)) .skip)) (.seq (.seq (G 6 (Z body115 79)) (.block 0 (.loop (.seq (G 7 (Z body115 559)) (.seq (.cond (.tmp 36) .skip (.exit 0)) (.seq (.block 1 (.seq (G 8 (Z body115 9007)) (G 9 (Z body115 13103)))) (G 10 (Z body115 3887)))))))) (.seq (.seq (G 11 (Z body115 159)) (.cond (.tmp 47) (G 12 (Z body115 351)) .skip)) (.seq (G 13 (Z body115 191)) .ret))))))):=by kernel_rfl
theorem sk116 : body116 = (.seq (G 0 (Z body116 2)) (.seq (G 1 (Z body116 5)) (.seq (.seq (G 2 (Z body116 19)) (.cond (.tmp 15) (.seq (G 3 (Z body116 75)) .ret) .skip)) (.seq (G 4 (Z body116 23)) (.seq (G 5 (Z body116 47)) (.seq (G 6 (Z body116 95)) (.seq (G 7 (Z body116 191)) .ret))))))):=by kernel_rfl
theorem sk168 : body168 = (.seq (G 0 (Z body168 2)) (.seq (G 1 (Z body168 5)) (.block 0 (.loop (.seq (G 2 (Z body168 35)) (.seq (.cond (.tmp 20) .skip (.exit 0)) (.seq (.block 1 (.seq (G 3 (Z body168 563)) (.seq (G 4 (Z body168 1331)) (.cond (.tmp 32) (G 5 (Z body168 2867)) .skip)))) (G 6 (Z body168 243))))))))):=by kernel_rfl
theorem di_r51_5 : drawInfo (Z body51 23) = some []:=by kernel_rfl
theorem di_r51_11 : drawInfo (Z body51 95023) = some [(1, 6), (2, 6), (3, 6)]:=by kernel_rfl
theorem di_r51_15 : drawInfo (Z body51 26866479) = some [(1, 14), (2, 14), (3, 14)]:=by kernel_rfl
theorem sk51 : body51 = (.seq (G 0 (Z body51 2)) (.seq (.seq (G 1 (Z body51 9)) (.seq (G 2 (Z body51 21)) (.cond (.tmp 15) (.seq (G 3 (Z body51 77)) .ret) .skip))) (.seq (G 4 (Z body51 11)) (.seq (.region 5 (Z body51 23) true) (.seq (.seq (G 6 (Z body51 79)) (.block 0 (.loop (.seq (G 7 (Z body51 559)) (.seq (.cond (.tmp 31) .skip (.exit 0)) (.seq (.block 1 (.seq (G 8 (Z body51 9007)) (.seq (G 9 (Z body51 21295)) (.seq (G 10 (Z body51 45871)) (.seq (.region 11 (Z body51 95023) true) (.seq (G 12 (Z body51 193327)) (.block 2 (.loop (.seq (G 13 (Z body51 1176367)) (.seq (.cond (.tmp 57) .skip (.exit 2)) (.seq (.block 3 (.seq (G 14 (Z body51 18477871)) (.region 15 (Z body51 26866479) true))) (G 16 (Z body51 7992111))))))))))))) (G 17 (Z body51 3887)))))))) (.seq (G 18 (Z body51 95)) (.seq (G 19 (Z body51 191)) .ret))))))):=by kernel_rfl
theorem sk149 : body149 = (.seq (G 0 (Z body149 2)) (.seq (.seq (G 1 (Z body149 9)) (.block 0 (.loop (.seq (G 2 (Z body149 69)) (.seq (.cond (.tmp 20) .skip (.exit 0)) (.seq (.block 1 (.seq (G 3 (Z body149 1125)) (.seq (G 4 (Z body149 2661)) (.cond (.tmp 27) (G 5 (Z body149 5733)) .skip)))) (G 6 (Z body149 485)))))))) (G 7 (Z body149 7)))):=by kernel_rfl
theorem sk85 : body85 = (.seq (G 0 (Z body85 2)) (.seq (G 1 (Z body85 5)) (.seq (G 2 (Z body85 11)) (.seq (G 3 (Z body85 23)) (.seq (G 4 (Z body85 47)) (.seq (G 5 (Z body85 95)) (.seq (G 6 (Z body85 191)) (.seq (G 7 (Z body85 383)) .ret)))))))):=by kernel_rfl
theorem di_r84_3 : drawInfo (Z body84 73) = some []:=by kernel_rfl
theorem sk84 : body84 = (.seq (G 0 (Z body84 2)) (.block 0 (.loop (.seq (.seq (G 1 (Z body84 33)) (.cond (.tmp 9) .skip (.exit 0))) (.seq (.block 1 (.region 3 (Z body84 73) true)) (G 2 (Z body84 57))))))):=by kernel_rfl
theorem sk176 : body176 = (.seq (G 0 (Z body176 2)) (.block 0 (.loop (.seq (.seq (G 1 (Z body176 33)) (.cond (.tmp 8) .skip (.exit 0))) (.seq (.block 1 (.seq (G 3 (Z body176 137)) (.cond (.tmp 18) .ret .skip))) (G 2 (Z body176 57))))))):=by kernel_rfl
theorem sk69 : body69 = (.seq (G 0 (Z body69 2)) (.seq (G 1 (Z body69 5)) .ret)):=by kernel_rfl
theorem sk15 : body15 = (.seq (G 0 (Z body15 2)) (.seq (.seq (G 1 (Z body15 9)) (.cond (.tmp 58) (.seq (G 2 (Z body15 37)) .ret) .skip)) (.seq (.seq (G 3 (Z body15 19)) (.block 0 (.loop (.seq (.seq (G 4 (Z body15 267)) (.cond (.tmp 63) .skip (.exit 0))) (.seq (.block 1 (.seq (G 6 (Z body15 1099)) (.cond (.tmp 72) (.seq (G 7 (Z body15 4683)) .ret) .skip))) (G 5 (Z body15 459))))))) (.seq (.seq (G 8 (Z body15 39)) (.block 2 (.loop (.seq (.seq (G 9 (Z body15 535)) (.cond (.tmp 77) .skip (.exit 2))) (.seq (.block 3 (.seq (G 11 (Z body15 2199)) (.seq (.seq (G 12 (Z body15 9367)) (.cond (.tmp 117) (.seq (G 13 (Z body15 38039)) .ret) .skip)) (.seq (G 14 (Z body15 11415)) (.block 4 (.loop (.seq (.seq (G 15 (Z body15 138391)) (.cond (.tmp 122) .skip (.exit 4))) (.seq (.block 5 (.seq (G 17 (Z body15 564375)) (.cond (.tmp 132) (.seq (G 18 (Z body15 2399383)) .ret) .skip))) (G 16 (Z body15 236695)))))))))) (G 10 (Z body15 919))))))) (.seq (G 19 (Z body15 47)) .ret))))):=by kernel_rfl
theorem sk87 : body87 = (.seq (G 0 (Z body87 2)) (.seq (.block 0 (.loop (.seq (.seq (G 1 (Z body87 65)) (.cond (.tmp 13) .skip (.exit 0))) (.block 1 (G 2 (Z body87 81)))))) (.seq (G 3 (Z body87 11)) .ret))):=by kernel_rfl
theorem sk94 : body94 = (.seq (G 0 (Z body94 2)) (.seq (G 1 (Z body94 5)) (.seq (.seq (G 2 (Z body94 19)) (.block 0 (.loop (.seq (G 3 (Z body94 139)) (.seq (.cond (.tmp 12) .skip (.exit 0)) (.seq (.block 1 (.seq (G 4 (Z body94 2251)) (G 5 (Z body94 3275)))) (G 6 (Z body94 971)))))))) (.seq (G 7 (Z body94 23)) .ret)))):=by kernel_rfl
theorem di_r60_24 : drawInfo (Z body60 316966909119) = some []:=by kernel_rfl
theorem sk60 : body60 = (.seq (G 0 (Z body60 2)) (.seq (G 1 (Z body60 5)) (.seq (G 2 (Z body60 11)) (.seq (.seq (G 3 (Z body60 39)) (.block 0 (.loop (.seq (G 4 (Z body60 279)) (.seq (.cond (.tmp 26) .skip (.exit 0)) (.seq (.block 1 (.seq (G 5 (Z body60 4503)) (G 6 (Z body60 6551)))) (G 7 (Z body60 1943)))))))) (.seq (G 8 (Z body60 47)) (.seq (G 9 (Z body60 95)) (.seq (.seq (G 10 (Z body60 319)) (.block 2 (.loop (.seq (.seq (G 11 (Z body60 4287)) (.cond (.tmp 44) .skip (.exit 2))) (.block 3 (.seq (G 12 (Z body60 9407)) (.seq (G 13 (Z body60 21695)) (.block 4 (.loop (.seq (G 14 (Z body60 144575)) (.seq (.cond (.tmp 49) .skip (.exit 4)) (.seq (.block 5 (.seq (G 15 (Z body60 2307263)) (.seq (G 16 (Z body60 5452991)) (.seq (.seq (G 17 (Z body60 20133055)) (.block 6 (.loop (.seq (G 18 (Z body60 145962175)) (.seq (.cond (.tmp 61) .skip (.exit 6)) (.seq (.block 7 (.seq (G 19 (Z body60 2360554687)) (.seq (.seq (G 20 (Z body60 9876747455)) (.cond (.tmp 68) (.exit 7) .skip)) (.seq (.seq (G 21 (Z body60 20614165695)) (.cond (.tmp 70) (.seq (G 22 (Z body60 80743707839)) (.exit 7)) .skip)) (.block 8 (.loop (.seq (.seq (G 23 (Z body60 145168217279)) (.cond (.tmp 74) .skip (.exit 8))) (.block 9 (.seq (.region 24 (Z body60 316966909119) true) (.cond (.tmp 83) (G 25 (Z body60 729283769535)) (G 26 (Z body60 1004161676479)))))))))))) (G 27 (Z body60 1018377407)))))))) (.seq (G 28 (Z body60 24327359)) (.cond (.tmp 98) (G 29 (Z body60 49493183)) .skip)))))) (G 30 (Z body60 996543)))))))))))))) (.seq (G 31 (Z body60 383)) (.seq (G 32 (Z body60 767)) .ret))))))))):=by kernel_rfl
theorem sk61 : body61 = (.seq (G 0 (Z body61 2)) (.block 0 (.loop (.seq (G 1 (Z body61 17)) (.seq (.cond (.tmp 12) .skip (.exit 0)) (.seq (.block 1 (.seq (G 2 (Z body61 281)) (.seq (G 3 (Z body61 665)) (.cond (.tmp 22) .ret .skip)))) (G 4 (Z body61 121)))))))):=by kernel_rfl
end Go.Proofs.Tryz.K
end
section
namespace Go.Proofs.Tryz.K
open Go.Abs
theorem di_r39_20 : drawInfo (Z body39 117951) = some [(0, 6)]:=by kernel_rfl
theorem sk39 : body39 = (.seq (G 0 (Z body39 2)) (.seq (G 1 (Z body39 5)) (.seq (.seq (G 2 (Z body39 19)) (.cond (.tmp 19) (.seq (G 3 (Z body39 75)) .ret) .skip)) (.seq (G 4 (Z body39 23)) (.seq (G 5 (Z body39 47)) (.seq (.seq (G 6 (Z body39 159)) (.block 0 (.rangeFunc (.tmp 31) #[32] (G 7 (Z body39 607)) (.block 1 (.seq (G 8 (Z body39 2399)) (.block 2 (.loop (.seq (G 9 (Z body39 17759)) (.seq (.cond (.tmp 42) .skip (.exit 2)) (.seq (.block 3 (.seq (G 10 (Z body39 288095)) (.seq (G 11 (Z body39 681311)) (.block 4 (.loop (.seq (.seq (G 12 (Z body39 8807775)) (.cond (.tmp 64) .skip (.exit 4))) (.seq (.block 5 (.region 14 (Z body39 19293535) true)) (G 13 (Z body39 15099231))))))))) (G 15 (Z body39 124255)))))))))))) (.seq (.seq (G 16 (Z body39 319)) (.block 6 (.loop (.seq (G 17 (Z body39 2239)) (.seq (.cond (.tmp 83) .skip (.exit 6)) (.seq (.block 7 (.seq (G 18 (Z body39 36031)) (.seq (G 19 (Z body39 85183)) (.region 20 (Z body39 117951) true)))) (G 21 (Z body39 15551)))))))) (.seq (G 22 (Z body39 383)) .ret)))))))):=by kernel_rfl
theorem sk37 : body37 = (.seq (G 0 (Z body37 2)) (.seq (G 1 (Z body37 5)) (.seq (.seq (G 2 (Z body37 19)) (.cond (.tmp 16) (.seq (G 3 (Z body37 75)) .ret) .skip)) (.seq (.seq (G 4 (Z body37 39)) (.cond (.tmp 27) (.seq (G 5 (Z body37 151)) .ret) .skip)) (.seq (G 6 (Z body37 47)) .ret))))):=by kernel_rfl
theorem sk31 : body31 = (.seq (G 0 (Z body31 2)) (.seq (G 1 (Z body31 5)) (.seq (.seq (G 2 (Z body31 19)) (.cond (.tmp 12) (.seq (G 3 (Z body31 75)) .ret) .skip)) (.seq (G 4 (Z body31 23)) .ret)))):=by kernel_rfl
theorem sk12 : body12 = (.seq (G 0 (Z body12 2)) (.seq (.seq (G 1 (Z body12 9)) (.cond (.tmp 18) (.seq (G 2 (Z body12 37)) .ret) .skip)) (.seq (G 3 (Z body12 11)) (.seq (G 4 (Z body12 23)) (.seq (.seq (G 5 (Z body12 79)) (.cond (.tmp 46) (.seq (G 6 (Z body12 303)) .ret) .skip)) (.seq (G 7 (Z body12 95)) (.seq (G 8 (Z body12 191)) (.seq (G 9 (Z body12 383)) (.seq (G 10 (Z body12 767)) (.seq (G 11 (Z body12 1535)) (.seq (.seq (G 12 (Z body12 5119)) (.cond (.tmp 75) (.seq (G 13 (Z body12 19455)) .ret) .skip)) (.seq (G 14 (Z body12 6143)) .ret)))))))))))):=by kernel_rfl
theorem sk47 : body47 = (.seq (G 0 (Z body47 2)) (.seq (.seq (G 1 (Z body47 9)) (.seq (G 2 (Z body47 21)) (.cond (.tmp 8) (.seq (G 3 (Z body47 77)) .ret) .skip))) (.seq (G 4 (Z body47 11)) .ret))):=by kernel_rfl
theorem sk99 : body99 = (.seq (G 0 (Z body99 2)) (.seq (G 1 (Z body99 5)) .ret)):=by kernel_rfl
theorem sk101 : body101 = (.seq (G 0 (Z body101 2)) (.seq (G 1 (Z body101 5)) .ret)):=by kernel_rfl
end Go.Proofs.Tryz.K
end
section
namespace Go.Proofs.Tryz.K
open Go.Abs
noncomputable def tabT : T (Func × Code) :=
 (.node none (.node none (.node (some (Tryz.f3, body3)) (.node (some (Tryz.f7, body7)) (.node (some (Tryz.f15, body15)) (.node (some (Tryz.f31, body31)) (.node (some (Tryz.f63, body63)) (.node (some (Tryz.f127, body127)) (.node (some (Tryz.f255, body255)) .leaf .leaf) .leaf) (.node (some (Tryz.f191, body191)) .leaf .leaf)) (.node (some (Tryz.f95, body95)) (.node (some (Tryz.f159, body159)) .leaf .leaf) (.node (some (Tryz.f223, body223)) .leaf .leaf))) (.node (some (Tryz.f47, body47)) (.node (some (Tryz.f79, body79)) (.node (some (Tryz.f143, body143)) .leaf .leaf) (.node (some (Tryz.f207, body207)) .leaf .leaf)) (.node (some (Tryz.f111, body111)) (.node (some (Tryz.f175, body175)) .leaf .leaf) (.node (some (Tryz.f239, body239)) .leaf .leaf)))) (.node (some (Tryz.f23, body23)) (.node (some (Tryz.f39, body39)) (.node (some (Tryz.f71, body71)) (.node (some (Tryz.f135, body135)) .leaf .leaf) (.node (some (Tryz.f199, body199)) .leaf .leaf)) (.node (some (Tryz.f103, body103)) (.node (some (Tryz.f167, body167)) .leaf .leaf) (.node (some (Tryz.f231, body231)) .leaf .leaf))) (.node (some (Tryz.f55, body55)) (.node (some (Tryz.f87, body87)) (.node (some (Tryz.f151, body151)) .leaf .leaf) (.node (some (Tryz.f215, body215)) .leaf .leaf)) (.node (some (Tryz.f119, body119)) (.node (some (Tryz.f183, body183)) .leaf .leaf) (.node (some (Tryz.f247, body247)) .leaf .leaf))))) (.node (some (Tryz.f11, body11)) (.node (some (Tryz.f19, body19)) (.node (some (Tryz.f35, body35)) (.node (some (Tryz.f67, body67)) (.node (some (Tryz.f131, body131)) (.node (some (Tryz.f259, body259)) .leaf .leaf) .leaf) (.node (some (Tryz.f195, body195)) .leaf .leaf)) (.node (some (Tryz.f99, body99)) (.node (some (Tryz.f163, body163)) .leaf .leaf) (.node (some (Tryz.f227, body227)) .leaf .leaf))) (.node (some (Tryz.f51, body51)) (.node (some (Tryz.f83, body83)) (.node (some (Tryz.f147, body147)) .leaf .leaf) (.node (some (Tryz.f211, body211)) .leaf .leaf)) (.node (some (Tryz.f115, body115)) (.node (some (Tryz.f179, body179)) .leaf .leaf) (.node (some (Tryz.f243, body243)) .leaf .leaf)))) (.node (some (Tryz.f27, body27)) (.node (some (Tryz.f43, body43)) (.node (some (Tryz.f75, body75)) (.node (some (Tryz.f139, body139)) .leaf .leaf) (.node (some (Tryz.f203, body203)) .leaf .leaf)) (.node (some (Tryz.f107, body107)) (.node (some (Tryz.f171, body171)) .leaf .leaf) (.node (some (Tryz.f235, body235)) .leaf .leaf))) (.node (some (Tryz.f59, body59)) (.node (some (Tryz.f91, body91)) (.node (some (Tryz.f155, body155)) .leaf .leaf) (.node (some (Tryz.f219, body219)) .leaf .leaf)) (.node (some (Tryz.f123, body123)) (.node (some (Tryz.f187, body187)) .leaf .leaf) (.node (some (Tryz.f251, body251)) .leaf .leaf)))))) (.node (some (Tryz.f5, body5)) (.node (some (Tryz.f9, body9)) (.node (some (Tryz.f17, body17)) (.node (some (Tryz.f33, body33)) (.node (some (Tryz.f65, body65)) (.node (some (Tryz.f129, body129)) (.node (some (Tryz.f257, body257)) .leaf .leaf) .leaf) (.node (some (Tryz.f193, body193)) .leaf .leaf)) (.node (some (Tryz.f97, body97)) (.node (some (Tryz.f161, body161)) .leaf .leaf) (.node (some (Tryz.f225, body225)) .leaf .leaf))) (.node (some (Tryz.f49, body49)) (.node (some (Tryz.f81, body81)) (.node (some (Tryz.f145, body145)) .leaf .leaf) (.node (some (Tryz.f209, body209)) .leaf .leaf)) (.node (some (Tryz.f113, body113)) (.node (some (Tryz.f177, body177)) .leaf .leaf) (.node (some (Tryz.f241, body241)) .leaf .leaf)))) (.node (some (Tryz.f25, body25)) (.node (some (Tryz.f41, body41)) (.node (some (Tryz.f73, body73)) (.node (some (Tryz.f137, body137)) .leaf .leaf) (.node (some (Tryz.f201, body201)) .leaf .leaf)) (.node (some (Tryz.f105, body105)) (.node (some (Tryz.f169, body169)) .leaf .leaf) (.node (some (Tryz.f233, body233)) .leaf .leaf))) (.node (some (Tryz.f57, body57)) (.node (some (Tryz.f89, body89)) (.node (some (Tryz.f153, body153)) .leaf .leaf) (.node (some (Tryz.f217, body217)) .leaf .leaf)) (.node (some (Tryz.f121, body121)) (.node (some (Tryz.f185, body185)) .leaf .leaf) (.node (some (Tryz.f249, body249)) .leaf .leaf))))) (.node (some (Tryz.f13, body13)) (.node (some (Tryz.f21, body21)) (.node (some (Tryz.f37, body37)) (.node (some (Tryz.f69, body69)) (.node (some (Tryz.f133, body133)) .leaf .leaf) (.node (some (Tryz.f197, body197)) .leaf .leaf)) (.node (some (Tryz.f101, body101)) (.node (some (Tryz.f165, body165)) .leaf .leaf) (.node (some (Tryz.f229, body229)) .leaf .leaf))) (.node (some (Tryz.f53, body53)) (.node (some (Tryz.f85, body85)) (.node (some (Tryz.f149, body149)) .leaf .leaf) (.node (some (Tryz.f213, body213)) .leaf .leaf)) (.node (some (Tryz.f117, body117)) (.node (some (Tryz.f181, body181)) .leaf .leaf) (.node (some (Tryz.f245, body245)) .leaf .leaf)))) (.node (some (Tryz.f29, body29)) (.node (some (Tryz.f45, body45)) (.node (some (Tryz.f77, body77)) (.node (some (Tryz.f141, body141)) .leaf .leaf) (.node (some (Tryz.f205, body205)) .leaf .leaf)) (.node (some (Tryz.f109, body109)) (.node (some (Tryz.f173, body173)) .leaf .leaf) (.node (some (Tryz.f237, body237)) .leaf .leaf))) (.node (some (Tryz.f61, body61)) (.node (some (Tryz.f93, body93)) (.node (some (Tryz.f157, body157)) .leaf .leaf) (.node (some (Tryz.f221, body221)) .leaf .leaf)) (.node (some (Tryz.f125, body125)) (.node (some (Tryz.f189, body189)) .leaf .leaf) (.node (some (Tryz.f253, body253)) .leaf .leaf))))))) (.node none (.node (some (Tryz.f4, body4)) (.node (some (Tryz.f8, body8)) (.node (some (Tryz.f16, body16)) (.node (some (Tryz.f32, body32)) (.node (some (Tryz.f64, body64)) (.node (some (Tryz.f128, body128)) (.node (some (Tryz.f256, body256)) .leaf .leaf) .leaf) (.node (some (Tryz.f192, body192)) .leaf .leaf)) (.node (some (Tryz.f96, body96)) (.node (some (Tryz.f160, body160)) .leaf .leaf) (.node (some (Tryz.f224, body224)) .leaf .leaf))) (.node (some (Tryz.f48, body48)) (.node (some (Tryz.f80, body80)) (.node (some (Tryz.f144, body144)) .leaf .leaf) (.node (some (Tryz.f208, body208)) .leaf .leaf)) (.node (some (Tryz.f112, body112)) (.node (some (Tryz.f176, body176)) .leaf .leaf) (.node (some (Tryz.f240, body240)) .leaf .leaf)))) (.node (some (Tryz.f24, body24)) (.node (some (Tryz.f40, body40)) (.node (some (Tryz.f72, body72)) (.node (some (Tryz.f136, body136)) .leaf .leaf) (.node (some (Tryz.f200, body200)) .leaf .leaf)) (.node (some (Tryz.f104, body104)) (.node (some (Tryz.f168, body168)) .leaf .leaf) (.node (some (Tryz.f232, body232)) .leaf .leaf))) (.node (some (Tryz.f56, body56)) (.node (some (Tryz.f88, body88)) (.node (some (Tryz.f152, body152)) .leaf .leaf) (.node (some (Tryz.f216, body216)) .leaf .leaf)) (.node (some (Tryz.f120, body120)) (.node (some (Tryz.f184, body184)) .leaf .leaf) (.node (some (Tryz.f248, body248)) .leaf .leaf))))) (.node (some (Tryz.f12, body12)) (.node (some (Tryz.f20, body20)) (.node (some (Tryz.f36, body36)) (.node (some (Tryz.f68, body68)) (.node (some (Tryz.f132, body132)) (.node (some (Tryz.f260, body260)) .leaf .leaf) .leaf) (.node (some (Tryz.f196, body196)) .leaf .leaf)) (.node (some (Tryz.f100, body100)) (.node (some (Tryz.f164, body164)) .leaf .leaf) (.node (some (Tryz.f228, body228)) .leaf .leaf))) (.node (some (Tryz.f52, body52)) (.node (some (Tryz.f84, body84)) (.node (some (Tryz.f148, body148)) .leaf .leaf) (.node (some (Tryz.f212, body212)) .leaf .leaf)) (.node (some (Tryz.f116, body116)) (.node (some (Tryz.f180, body180)) .leaf .leaf) (.node (some (Tryz.f244, body244)) .leaf .leaf)))) (.node (some (Tryz.f28, body28)) (.node (some (Tryz.f44, body44)) (.node (some (Tryz.f76, body76)) (.node (some (Tryz.f140, body140)) .leaf .leaf) (.node (some (Tryz.f204, body204)) .leaf .leaf)) (.node (some (Tryz.f108, body108)) (.node (some (Tryz.f172, body172)) .leaf .leaf) (.node (some (Tryz.f236, body236)) .leaf .leaf))) (.node (some (Tryz.f60, body60)) (.node (some (Tryz.f92, body92)) (.node (some (Tryz.f156, body156)) .leaf .leaf) (.node (some (Tryz.f220, body220)) .leaf .leaf)) (.node (some (Tryz.f124, body124)) (.node (some (Tryz.f188, body188)) .leaf .leaf) (.node (some (Tryz.f252, body252)) .leaf .leaf)))))) (.node (some (Tryz.f6, body6)) (.node (some (Tryz.f10, body10)) (.node (some (Tryz.f18, body18)) (.node (some (Tryz.f34, body34)) (.node (some (Tryz.f66, body66)) (.node (some (Tryz.f130, body130)) (.node (some (Tryz.f258, body258)) .leaf .leaf) .leaf) (.node (some (Tryz.f194, body194)) .leaf .leaf)) (.node (some (Tryz.f98, body98)) (.node (some (Tryz.f162, body162)) .leaf .leaf) (.node (some (Tryz.f226, body226)) .leaf .leaf))) (.node (some (Tryz.f50, body50)) (.node (some (Tryz.f82, body82)) (.node (some (Tryz.f146, body146)) .leaf .leaf) (.node (some (Tryz.f210, body210)) .leaf .leaf)) (.node (some (Tryz.f114, body114)) (.node (some (Tryz.f178, body178)) .leaf .leaf) (.node (some (Tryz.f242, body242)) .leaf .leaf)))) (.node (some (Tryz.f26, body26)) (.node (some (Tryz.f42, body42)) (.node (some (Tryz.f74, body74)) (.node (some (Tryz.f138, body138)) .leaf .leaf) (.node (some (Tryz.f202, body202)) .leaf .leaf)) (.node (some (Tryz.f106, body106)) (.node (some (Tryz.f170, body170)) .leaf .leaf) (.node (some (Tryz.f234, body234)) .leaf .leaf))) (.node (some (Tryz.f58, body58)) (.node (some (Tryz.f90, body90)) (.node (some (Tryz.f154, body154)) .leaf .leaf) (.node (some (Tryz.f218, body218)) .leaf .leaf)) (.node (some (Tryz.f122, body122)) (.node (some (Tryz.f186, body186)) .leaf .leaf) (.node (some (Tryz.f250, body250)) .leaf .leaf))))) (.node (some (Tryz.f14, body14)) (.node (some (Tryz.f22, body22)) (.node (some (Tryz.f38, body38)) (.node (some (Tryz.f70, body70)) (.node (some (Tryz.f134, body134)) .leaf .leaf) (.node (some (Tryz.f198, body198)) .leaf .leaf)) (.node (some (Tryz.f102, body102)) (.node (some (Tryz.f166, body166)) .leaf .leaf) (.node (some (Tryz.f230, body230)) .leaf .leaf))) (.node (some (Tryz.f54, body54)) (.node (some (Tryz.f86, body86)) (.node (some (Tryz.f150, body150)) .leaf .leaf) (.node (some (Tryz.f214, body214)) .leaf .leaf)) (.node (some (Tryz.f118, body118)) (.node (some (Tryz.f182, body182)) .leaf .leaf) (.node (some (Tryz.f246, body246)) .leaf .leaf)))) (.node (some (Tryz.f30, body30)) (.node (some (Tryz.f46, body46)) (.node (some (Tryz.f78, body78)) (.node (some (Tryz.f142, body142)) .leaf .leaf) (.node (some (Tryz.f206, body206)) .leaf .leaf)) (.node (some (Tryz.f110, body110)) (.node (some (Tryz.f174, body174)) .leaf .leaf) (.node (some (Tryz.f238, body238)) .leaf .leaf))) (.node (some (Tryz.f62, body62)) (.node (some (Tryz.f94, body94)) (.node (some (Tryz.f158, body158)) .leaf .leaf) (.node (some (Tryz.f222, body222)) .leaf .leaf)) (.node (some (Tryz.f126, body126)) (.node (some (Tryz.f190, body190)) .leaf .leaf) (.node (some (Tryz.f254, body254)) .leaf .leaf))))))))
def AllI (p : Nat -> Func × Code -> Prop) : (Nat -> Nat) -> T (Func × Code) -> Prop
 | _, .leaf => True
 | g, .node v l r => (∀ a, v = some a -> p (g 0) a) /\ AllI p (fun i => g (2 * i + 1)) l /\ AllI p (fun i => g (2 * i + 2)) r
theorem allI_get {p : Nat -> Func × Code -> Prop} : ∀ {t : T (Func × Code)} {g : Nat -> Nat}, AllI p g t -> ∀ i a, t.get i = some a -> p (g i) a
 | .leaf, _, _, i, a, h => by cases h
 | .node v l r, g, ⟨h1, h2, h3⟩, i, a, h => by
  rw [T.get_node] at h
  by_cases h0 : i = 0
  ·subst h0
   exact h1 a (by simpa using h)
  ·rw [if_neg h0] at h
   by_cases ho : i % 2 = 1
   ·rw [if_pos ho] at h
    have := allI_get h2 _ a h
    have e : 2 * (i / 2) + 1 = i := by omega
    simpa only [e] using this
   ·rw [if_neg ho] at h
    have := allI_get h3 _ a h
    have e : 2 * (i / 2 - 1) + 2 = i := by omega
    simpa only [e] using this
theorem e0 {p : Func × Code -> Prop} : ∀ a, (none : Option (Func × Code)) = some a -> p a := fun _ h => by cases h
theorem e1 {i : Nat} {fn : Func} {c : Code} (h : FnOk prog i fn c) : ∀ a, some (fn, c) = some a -> FnOk prog i a.1 a.2 := fun _ e => by cases e; exact h
theorem tab_all : AllI (fun i a => FnOk prog i a.1 a.2) (fun i => i) tabT :=
 ⟨e0, ⟨e0, ⟨e1 ok3, ⟨e1 ok7, ⟨e1 ok15, ⟨e1 ok31, ⟨e1 ok63, ⟨e1 ok127, ⟨e1 ok255, trivial, trivial⟩, trivial⟩, ⟨e1 ok191, trivial, trivial⟩⟩, ⟨e1 ok95, ⟨e1 ok159, trivial, trivial⟩, ⟨e1 ok223, trivial, trivial⟩⟩⟩, ⟨e1 ok47, ⟨e1 ok79, ⟨e1 ok143, trivial, trivial⟩, ⟨e1 ok207, trivial, trivial⟩⟩, ⟨e1 ok111, ⟨e1 ok175, trivial, trivial⟩, ⟨e1 ok239, trivial, trivial⟩⟩⟩⟩, ⟨e1 ok23, ⟨e1 ok39, ⟨e1 ok71, ⟨e1 ok135, trivial, trivial⟩, ⟨e1 ok199, trivial, trivial⟩⟩, ⟨e1 ok103, ⟨e1 ok167, trivial, trivial⟩, ⟨e1 ok231, trivial, trivial⟩⟩⟩, ⟨e1 ok55, ⟨e1 ok87, ⟨e1 ok151, trivial, trivial⟩, ⟨e1 ok215, trivial, trivial⟩⟩, ⟨e1 ok119, ⟨e1 ok183, trivial, trivial⟩, ⟨e1 ok247, trivial, trivial⟩⟩⟩⟩⟩, ⟨e1 ok11, ⟨e1 ok19, ⟨e1 ok35, ⟨e1 ok67, ⟨e1 ok131, ⟨e1 ok259, trivial, trivial⟩, trivial⟩, ⟨e1 ok195, trivial, trivial⟩⟩, ⟨e1 ok99, ⟨e1 ok163, trivial, trivial⟩, ⟨e1 ok227, trivial, trivial⟩⟩⟩, ⟨e1 ok51, ⟨e1 ok83, ⟨e1 ok147, trivial, trivial⟩, ⟨e1 ok211, trivial, trivial⟩⟩, ⟨e1 ok115, ⟨e1 ok179, trivial, trivial⟩, ⟨e1 ok243, trivial, trivial⟩⟩⟩⟩, ⟨e1 ok27, ⟨e1 ok43, ⟨e1 ok75, ⟨e1 ok139, trivial, trivial⟩, ⟨e1 ok203, trivial, trivial⟩⟩, ⟨e1 ok107, ⟨e1 ok171, trivial, trivial⟩, ⟨e1 ok235, trivial, trivial⟩⟩⟩, ⟨e1 ok59, ⟨e1 ok91, ⟨e1 ok155, trivial, trivial⟩, ⟨e1 ok219, trivial, trivial⟩⟩, ⟨e1 ok123, ⟨e1 ok187, trivial, trivial⟩, ⟨e1 ok251, trivial, trivial⟩⟩⟩⟩⟩⟩, ⟨e1 ok5, ⟨e1 ok9, ⟨e1 ok17, ⟨e1 ok33, ⟨e1 ok65, ⟨e1 ok129, ⟨e1 ok257, trivial, trivial⟩, trivial⟩, ⟨e1 ok193, trivial, trivial⟩⟩, ⟨e1 ok97, ⟨e1 ok161, trivial, trivial⟩, ⟨e1 ok225, trivial, trivial⟩⟩⟩, ⟨e1 ok49, ⟨e1 ok81, ⟨e1 ok145, trivial, trivial⟩, ⟨e1 ok209, trivial, trivial⟩⟩, ⟨e1 ok113, ⟨e1 ok177, trivial, trivial⟩, ⟨e1 ok241, trivial, trivial⟩⟩⟩⟩, ⟨e1 ok25, ⟨e1 ok41, ⟨e1 ok73, ⟨e1 ok137, trivial, trivial⟩, ⟨e1 ok201, trivial, trivial⟩⟩, ⟨e1 ok105, ⟨e1 ok169, trivial, trivial⟩, ⟨e1 ok233, trivial, trivial⟩⟩⟩, ⟨e1 ok57, ⟨e1 ok89, ⟨e1 ok153, trivial, trivial⟩, ⟨e1 ok217, trivial, trivial⟩⟩, ⟨e1 ok121, ⟨e1 ok185, trivial, trivial⟩, ⟨e1 ok249, trivial, trivial⟩⟩⟩⟩⟩, ⟨e1 ok13, ⟨e1 ok21, ⟨e1 ok37, ⟨e1 ok69, ⟨e1 ok133, trivial, trivial⟩, ⟨e1 ok197, trivial, trivial⟩⟩, ⟨e1 ok101, ⟨e1 ok165, trivial, trivial⟩, ⟨e1 ok229, trivial, trivial⟩⟩⟩, ⟨e1 ok53, ⟨e1 ok85, ⟨e1 ok149, trivial, trivial⟩, ⟨e1 ok213, trivial, trivial⟩⟩, ⟨e1 ok117, ⟨e1 ok181, trivial, trivial⟩, ⟨e1 ok245, trivial, trivial⟩⟩⟩⟩, ⟨e1 ok29, ⟨e1 ok45, ⟨e1 ok77, ⟨e1 ok141, trivial, trivial⟩, ⟨e1 ok205, trivial, trivial⟩⟩, ⟨e1 ok109, ⟨e1 ok173, trivial, trivial⟩, ⟨e1 ok237, trivial, trivial⟩⟩⟩, ⟨e1 ok61, ⟨e1 ok93, ⟨e1 ok157, trivial, trivial⟩, ⟨e1 ok221, trivial, trivial⟩⟩, ⟨e1 ok125, ⟨e1 ok189, trivial, trivial⟩, ⟨e1 ok253, trivial, trivial⟩⟩⟩⟩⟩⟩⟩, ⟨e0, ⟨e1 ok4, ⟨e1 ok8, ⟨e1 ok16, ⟨e1 ok32, ⟨e1 ok64, ⟨e1 ok128, ⟨e1 ok256, trivial, trivial⟩, trivial⟩, ⟨e1 ok192, trivial, trivial⟩⟩, ⟨e1 ok96, ⟨e1 ok160, trivial, trivial⟩, ⟨e1 ok224, trivial, trivial⟩⟩⟩, ⟨e1 ok48, ⟨e1 ok80, ⟨e1 ok144, trivial, trivial⟩, ⟨e1 ok208, trivial, trivial⟩⟩, ⟨e1 ok112, ⟨e1 ok176, trivial, trivial⟩, ⟨e1 ok240, trivial, trivial⟩⟩⟩⟩, ⟨e1 ok24, ⟨e1 ok40, ⟨e1 ok72, ⟨e1 ok136, trivial, trivial⟩, ⟨e1 ok200, trivial, trivial⟩⟩, ⟨e1 ok104, ⟨e1 ok168, trivial, trivial⟩, ⟨e1 ok232, trivial, trivial⟩⟩⟩, ⟨e1 ok56, ⟨e1 ok88, ⟨e1 ok152, trivial, trivial⟩, ⟨e1 ok216, trivial, trivial⟩⟩, ⟨e1 ok120, ⟨e1 ok184, trivial, trivial⟩, ⟨e1 ok248, trivial, trivial⟩⟩⟩⟩⟩, ⟨e1 ok12, ⟨e1 ok20, ⟨e1 ok36, ⟨e1 ok68, ⟨e1 ok132, ⟨e1 ok260, trivial, trivial⟩, trivial⟩, ⟨e1 ok196, trivial, trivial⟩⟩, ⟨e1 ok100, ⟨e1 ok164, trivial, trivial⟩, ⟨e1 ok228, trivial, trivial⟩⟩⟩, ⟨e1 ok52, ⟨e1 ok84, ⟨e1 ok148, trivial, trivial⟩, ⟨e1 ok212, trivial, trivial⟩⟩, ⟨e1 ok116, ⟨e1 ok180, trivial, trivial⟩, ⟨e1 ok244, trivial, trivial⟩⟩⟩⟩, ⟨e1 ok28, ⟨e1 ok44, ⟨e1 ok76, ⟨e1 ok140, trivial, trivial⟩, ⟨e1 ok204, trivial, trivial⟩⟩, ⟨e1 ok108, ⟨e1 ok172, trivial, trivial⟩, ⟨e1 ok236, trivial, trivial⟩⟩⟩, ⟨e1 ok60, ⟨e1 ok92, ⟨e1 ok156, trivial, trivial⟩, ⟨e1 ok220, trivial, trivial⟩⟩, ⟨e1 ok124, ⟨e1 ok188, trivial, trivial⟩, ⟨e1 ok252, trivial, trivial⟩⟩⟩⟩⟩⟩, ⟨e1 ok6, ⟨e1 ok10, ⟨e1 ok18, ⟨e1 ok34, ⟨e1 ok66, ⟨e1 ok130, ⟨e1 ok258, trivial, trivial⟩, trivial⟩, ⟨e1 ok194, trivial, trivial⟩⟩, ⟨e1 ok98, ⟨e1 ok162, trivial, trivial⟩, ⟨e1 ok226, trivial, trivial⟩⟩⟩, ⟨e1 ok50, ⟨e1 ok82, ⟨e1 ok146, trivial, trivial⟩, ⟨e1 ok210, trivial, trivial⟩⟩, ⟨e1 ok114, ⟨e1 ok178, trivial, trivial⟩, ⟨e1 ok242, trivial, trivial⟩⟩⟩⟩, ⟨e1 ok26, ⟨e1 ok42, ⟨e1 ok74, ⟨e1 ok138, trivial, trivial⟩, ⟨e1 ok202, trivial, trivial⟩⟩, ⟨e1 ok106, ⟨e1 ok170, trivial, trivial⟩, ⟨e1 ok234, trivial, trivial⟩⟩⟩, ⟨e1 ok58, ⟨e1 ok90, ⟨e1 ok154, trivial, trivial⟩, ⟨e1 ok218, trivial, trivial⟩⟩, ⟨e1 ok122, ⟨e1 ok186, trivial, trivial⟩, ⟨e1 ok250, trivial, trivial⟩⟩⟩⟩⟩, ⟨e1 ok14, ⟨e1 ok22, ⟨e1 ok38, ⟨e1 ok70, ⟨e1 ok134, trivial, trivial⟩, ⟨e1 ok198, trivial, trivial⟩⟩, ⟨e1 ok102, ⟨e1 ok166, trivial, trivial⟩, ⟨e1 ok230, trivial, trivial⟩⟩⟩, ⟨e1 ok54, ⟨e1 ok86, ⟨e1 ok150, trivial, trivial⟩, ⟨e1 ok214, trivial, trivial⟩⟩, ⟨e1 ok118, ⟨e1 ok182, trivial, trivial⟩, ⟨e1 ok246, trivial, trivial⟩⟩⟩⟩, ⟨e1 ok30, ⟨e1 ok46, ⟨e1 ok78, ⟨e1 ok142, trivial, trivial⟩, ⟨e1 ok206, trivial, trivial⟩⟩, ⟨e1 ok110, ⟨e1 ok174, trivial, trivial⟩, ⟨e1 ok238, trivial, trivial⟩⟩⟩, ⟨e1 ok62, ⟨e1 ok94, ⟨e1 ok158, trivial, trivial⟩, ⟨e1 ok222, trivial, trivial⟩⟩, ⟨e1 ok126, ⟨e1 ok190, trivial, trivial⟩, ⟨e1 ok254, trivial, trivial⟩⟩⟩⟩⟩⟩⟩⟩
theorem tab_ok (f : FuncId) (fn : Func) (c : Code) (h : tabT.get f = some (fn, c)) : FnOk prog f fn c := allI_get tab_all f (fn, c) h
end Go.Proofs.Tryz.K
end
section
namespace Go.Abs
open Go.ChangeShapes Go.WideShapes
inductive Sh
 | int (k : IntKind)
 | bool
 | str
 | sl (s : Sh)
 | unit
 | pair (a b : Sh)
def Sh.val : Sh -> Type
 | .int _ => Int
 | .bool => Bool
 | .str => ByteArray
 | .sl s => List s.val
 | .unit => Unit
 | .pair a b => a.val × b.val
def Sh.size : Sh -> Nat
 | .unit => 0
 | .pair a b => a.size + b.size
 | _ => 1
def Sh.enc : (s : Sh) -> s.val -> List D
 | .int k, n => [.s (.int k n)]
 | .bool, b => [.s (.bool b)]
 | .str, b => [.s (.string b)]
 | .sl s, l => [.sl (List.flatMap s.enc l) (List.length l)]
 | .unit, _ => []
 | .pair a b, x => a.enc x.1 ++ b.enc x.2
def Sh.arg : (s : Sh) -> s.val -> D
 | .int k, n => .s (.int k n)
 | .bool, b => .s (.bool b)
 | .str, b => .s (.string b)
 | .sl s, l => .sl (List.flatMap s.enc l) (List.length l)
 | .unit, _ => .agg []
 | .pair a b, x => .agg (a.enc x.1 ++ b.enc x.2)
def Sh.ok : (s : Sh) -> s.val -> Prop
 | .int k, n => (Lit.int k n).wf = true
 | .bool, _ => True
 | .str, b => ByteArray.size b <= maxLen
 | .sl s, l => ∀ x : s.val, List.Mem x l -> s.ok x
 | .unit, _ => True
 | .pair a b, x => a.ok x.1 /\ b.ok x.2
theorem Sh.enc_length : ∀ (s : Sh) (x : s.val), (s.enc x).length = s.size
 | .int _, _ | .bool, _ | .str, _ | .sl _, _ | .unit, _ => rfl
 | .pair a b, x => by simp [Sh.enc, Sh.size, Sh.enc_length a, Sh.enc_length b]
section
variable (P : Program)
def shFs (sh : TypeId -> Option Sh) : Nat -> List Field -> Option Sh
 | _, [] => some .unit
 | off, f :: fs => if f.offset = off then match sh f.type, shFs sh (off + P.cellsOf f.type) fs with
   | some a, some b => some (.pair a b)
   | _, _ => none
  else none
def shT : Nat -> TypeId -> Option Sh
 | 0, _ => none
 | n + 1, t => match P.underlying t with
  | some .bool => if P.cellsOf t = 1 then some .bool else none
  | some (.int k) => if P.cellsOf t = 1 then some (.int k) else none
  | some .string => if P.cellsOf t = 1 then some .str else none
  | some (.slice e) => if P.cellsOf t = 1 /\ 0 < P.cellsOf e then (shT n e).map .sl else none
  | some (.struct fs) => match shFs P (shT n) 0 fs.toList with
   | some s => if s.size = P.cellsOf t then some s else none
   | none => none
  | _ => none
end
section
variable {P : Program} {H : Type} {ec : TypeId × Value -> H} {w : World} {base : Nat} {spare : Nat -> Bool} {held : Bool}
def Holds (w : World) (ds : List D) (cs : List Value) : Prop := ds.length = cs.length /\ ∀ (k : Nat) (d : D) (u : Value), ds[k]? = some d -> cs[k]? = some u -> R (fun _ => False) noRows w d u /\ u.oneCell' = true
theorem Holds.app {ds ds' : List D} {cs cs' : List Value} (h : Holds w ds cs) (h' : Holds w ds' cs') : Holds w (ds ++ ds') (cs ++ cs') := by
 refine ⟨by simp [h.1, h'.1], fun k d u hd hu => ?_⟩
 by_cases hk : k < ds.length
 ·rw [List.getElem?_append_left hk] at hd
  rw [List.getElem?_append_left (by have := h.1; omega)] at hu
  exact h.2 k d u hd hu
 ·rw [List.getElem?_append_right oG] at hd
  rw [List.getElem?_append_right (by have := h.1; omega), <- h.1] at hu
  exact h'.2 (k - ds.length) d u hd hu
theorem Holds.one {d : D} {u : Value} (h : R (fun _ => False) noRows w d u) (h' : u.oneCell' = true) : Holds w [d] [u] := ⟨rfl, fun k d' u' hd hu => by
 cases k with
 | zero => simp at hd hu; subst hd hu; exact ⟨h, h'⟩
 | succ k => simp at hd⟩
theorem Holds.nil : Holds w [] [] := ⟨rfl, by simp⟩
theorem shFs_nil {sh : TypeId -> Option Sh} {off : Nat} {s : Sh} (h : shFs P sh off [] = some s) : s = .unit := by
 simp only [shFs, Option.some.injEq] at h
 exact h.symm
theorem shFs_cons {sh : TypeId -> Option Sh} {off : Nat} {f : Field} {fs : List Field} {s : Sh} (h : shFs P sh off (f :: fs) = some s) :
  f.offset = off /\ ∃ a b, sh f.type = some a /\ shFs P sh (off + P.cellsOf f.type) fs = some b /\ s = .pair a b := by
 simp only [shFs] at h
 split at h
 ·rename_i hoff
  split at h
  ·rename_i a b ha hb
   simp only [Option.some.injEq] at h
   exact ⟨hoff, a, b, ha, hb, h.symm⟩
  ·cases h
 ·cases h
theorem shT_size : ∀ (n : Nat) (t : TypeId) (s : Sh), shT P n t = some s -> s.size = P.cellsOf t
 | 0, _, _, h => by cases h
 | n + 1, t, s, h => by
  unfold shT at h
  split at h
  ·split at h
   ·rename_i h1; simp only [Option.some.injEq] at h; subst h; exact h1.symm
   ·cases h
  ·split at h
   ·rename_i h1; simp only [Option.some.injEq] at h; subst h; exact h1.symm
   ·cases h
  ·split at h
   ·rename_i h1; simp only [Option.some.injEq] at h; subst h; exact h1.symm
   ·cases h
  ·split at h
   ·rename_i h1
    simp only [Option.map_eq_some_iff] at h
    obtain ⟨a, _, rfl⟩ := h
    exact h1.1.symm
   ·cases h
  ·split at h
   ·split at h
    ·rename_i h1; simp only [Option.some.injEq] at h; subst h; exact h1
    ·cases h
   ·cases h
  ·cases h
def Reads (P : Program) (w : World) (sh : TypeId -> Option Sh) (rd : TypeId -> List Value -> Option (DataW H × List MemPlace)) : Prop :=
 ∀ t s cs x, sh t = some s -> cs.length = P.cellsOf t -> rd t cs = some x -> ∃ v : s.val, s.ok v /\ Holds w (s.enc v) cs
theorem reads_fs {sh : TypeId -> Option Sh} {rd : TypeId -> List Value -> Option (DataW H × List MemPlace)} (hz : ∀ t s, sh t = some s -> s.size = P.cellsOf t) (h : Reads P w sh rd) {cs : List Value} : ∀ (fs : List Field) (off : Nat) (s : Sh), shFs P sh off fs = some s -> off + s.size <= cs.length ->
  (∀ f ∈ fs, ∃ x, rd f.type ((cs.drop f.offset).take (P.cellsOf f.type)) = some x) -> ∃ v : s.val, s.ok v /\ Holds w (s.enc v) ((cs.drop off).take s.size)
 | [], off, s, hs, _, _ => by
  obtain rfl := shFs_nil hs
  exact ⟨(), trivial, by simp [Sh.enc, Sh.size, Holds]⟩
 | f :: fs, off, s, hs, hl, hr => by
  obtain ⟨hoff, a, b, ha, hb, rfl⟩ := shFs_cons hs
  obtain ⟨x, hx⟩ := hr f (by simp)
  have hl' : off + (a.size + b.size) <= cs.length := hl
  have hsz := hz _ _ ha
  rw [hoff] at hx
  obtain ⟨v, hvo, hv⟩ := h f.type a _ x ha (by simp only [List.length_take, List.length_drop]; omega) hx
  rw [<- hsz] at hb hv
  obtain ⟨v', hvo', hv'⟩ := reads_fs hz h fs (off + a.size) b hb oG fun g hg => hr g (by simp [hg])
  refine ⟨(v, v'), ⟨hvo, hvo'⟩, ?_⟩
  have := hv.app hv'
  show Holds w (a.enc v ++ b.enc v') ((cs.drop off).take (a.size + b.size))
  rw [List.take_add, List.drop_drop]
  exact this
theorem cells_get {a : Addr} {n : Nat} {cs : List Value} (h : w.cells? base a n = some cs) : cs.length = n /\ ∀ k, k < n -> w.cell? (a.add k) = cs[k]? /\ k < cs.length := by
 unfold World.cells? at h
 split at h
 ·have hl : cs.length = n := by simpa using mapM_some_length h
  exact ⟨hl, fun k hk => ⟨mapM_some_get h k k (by simp [hk]), by omega⟩⟩
 ·cases h
theorem choose_list {α β : Type} {p : Nat -> α -> β -> Prop} : ∀ (n : Nat) (l : Nat -> α), (∀ i, i < n -> ∃ y, p i (l i) y) -> ∃ ys : List β, ys.length = n /\ ∀ i (h : i < n) y, ys[i]? = some y -> p i (l i) y
 | 0, _, _ => ⟨[], rfl, fun i h => by omega⟩
 | n + 1, l, h => by
  obtain ⟨ys, h1, h2⟩ := choose_list n l fun i hi => h i oG
  obtain ⟨y, hy⟩ := h n oG
  refine ⟨ys ++ [y], by simp [h1], fun i hi z hz => ?_⟩
  by_cases hin : i < n
  ·rw [List.getElem?_append_left oG] at hz
   exact h2 i hin z hz
  ·have : i = n := by omega
   subst this
   rw [List.getElem?_append_right oG] at hz
   simp [h1] at hz
   subst hz
   exact hy
theorem flat_get {α : Type} {f : α -> List D} {sz : Nat} (hs : ∀ x, (f x).length = sz) : ∀ (l : List α) (i j : Nat), j < sz -> (l.flatMap f)[i * sz + j]? = (l[i]?).bind fun x => (f x)[j]?
 | [], i, j, _ => by simp
 | x :: l, 0, j, h => by simp [List.getElem?_append_left (show j < (f x).length by rw [hs]; exact h)]
 | x :: l, i + 1, j, h => by
  rw [List.flatMap_cons, List.getElem?_append_right (by rw [hs, Nat.add_mul]; omega)]
  have : (i + 1) * sz + j - (f x).length = i * sz + j := by rw [hs, Nat.add_mul]; omega
  rw [this, flat_get hs l i j h]
  simp
theorem reads_T : ∀ (fuel n : Nat), Reads P w (shT P n) (DataW.trod ec P w base spare held fuel)
 | fuel, 0, t, s, cs, x, h, _, _ => by cases h
 | fuel, n + 1, t, s, cs, x, h, hl, hr => by
  have hsz := shT_size _ _ _ h
  unfold shT at h
  split at h
  ·rename_i ht
   split at h
   ·simp only [Option.some.injEq] at h; subst h
    obtain ⟨b, rfl, _⟩ := DataW.trod_bool ht hr
    exact ⟨b, trivial, .one (.s _ rfl) rfl⟩
   ·cases h
  ·rename_i k ht
   split at h
   ·simp only [Option.some.injEq] at h; subst h
    obtain ⟨b, rfl, _, hw⟩ := DataW.trod_int ht hr
    exact ⟨b, hw, .one (.s _ rfl) rfl⟩
   ·cases h
  ·rename_i ht
   split at h
   ·simp only [Option.some.injEq] at h; subst h
    obtain ⟨b, rfl, _, hw⟩ := DataW.trod_string ht hr
    exact ⟨b, hw, .one (.s _ rfl) rfl⟩
   ·cases h
  ·rename_i e ht
   split at h
   ·rename_i hc
    simp only [Option.map_eq_some_iff] at h
    obtain ⟨a, ha, rfl⟩ := h
    have haz := shT_size _ _ _ ha
    rcases DataW.trod_slice ht hr with ⟨rfl, _⟩ | ⟨ad, len, cap, elems, rest, fl, rfl, rfl, _, hb, hlc, hm, hlen, hel, _, _⟩
    ·exact ⟨([] : List a.val), (fun x h => nomatch h), .one (by exact .sln none 0) rfl⟩
    ·have hel' : ∀ i, i < len -> ∃ csi : List Value, w.cells? base (ad.add (i * P.cellsOf e)) (P.cellsOf e) = some csi /\ ∃ y, DataW.trod ec P w base spare held fl e csi = some y := fun i hi => by
      have := hel i hi
      have hg : elems[i]? = some elems[i] := by simp [hlen, hi]
      rw [hg, Option.bind_eq_some_iff] at this
      obtain ⟨csi, h1, h2⟩ := this
      exact ⟨csi, h1, _, h2⟩
     have hval : ∀ i, i < len -> ∃ v : a.val, a.ok v /\ ∃ csi, w.cells? base (ad.add (i * P.cellsOf e)) (P.cellsOf e) = some csi /\ Holds w (a.enc v) csi := fun i hi => by
      obtain ⟨csi, h1, y, h2⟩ := hel' i hi
      obtain ⟨v, hvo, hv⟩ := reads_T fl n e a csi y ha (cells_get h1).1 h2
      exact ⟨v, hvo, csi, h1, hv⟩
     obtain ⟨vs, hvl, hvs⟩ := choose_list (p := fun (i : Nat) (_ : Nat) (v : a.val) => a.ok v /\ ∃ csi, w.cells? base (ad.add (i * P.cellsOf e)) (P.cellsOf e) = some csi /\ Holds w (a.enc v) csi) len (fun i => i) hval
     have hvok : ∀ x : a.val, x ∈ vs -> a.ok x := fun x hm => by
      obtain ⟨i, hx⟩ := List.getElem?_of_mem hm
      exact (hvs i (by have := (List.getElem?_eq_some_iff.1 hx).1; omega) x hx).1
     cases len with
     | zero =>
      have : vs = [] := List.length_eq_zero_iff.1 hvl
      subst this
      exact ⟨([] : List a.val), (fun x h => nomatch h), .one (by exact .sln _ cap) rfl⟩
     | succ l =>
      obtain ⟨csi, h0, _⟩ := hel' 0 oG
      have hc0 := (cells_get h0).2 0 hc.2
      simp only [Nat.zero_mul, Addr.add, if_true] at hc0
      obtain ⟨b, o, sp⟩ := ad
      have hsome : ∃ u, w.cell? ⟨b, o, sp⟩ = some u := ⟨csi[0], by rw [hc0.1]; simp [hc0.2]⟩
      obtain ⟨u0, hu0⟩ := hsome
      unfold World.cell? at hu0
      have hb' : b < w.heap.size := by
       cases hh : w.heap[b]? with
       | none => rw [hh] at hu0; cases hu0
       | some x => exact (Array.getElem?_eq_some_iff.1 hh).1
      have hsp : sp = none := by
       cases sp with
       | none => rfl
       | some q =>
        simp only at hu0
        split at hu0
        ·simp at hu0
        ·cases hu0
      subst hsp
      have hadd : ∀ i j, ((⟨b, o, none⟩ : Addr).add i).add j = ⟨b, o + (i + j), none⟩ := fun i j => by
       unfold Addr.add
       split <;> split <;> simp_all
       omega
      have hk : ∀ k d, (vs.flatMap a.enc)[k]? = some d -> ∃ u, w.cell? ⟨b, o + k, none⟩ = some u /\ R (fun _ => False) noRows w d u /\ u.oneCell' = true := fun k d hd => by
       have hpos : 0 < a.size := by omega
       have hk1 : k / a.size * a.size + k % a.size = k := by rw [Nat.mul_comm]; exact Nat.div_add_mod k a.size
       have hk2 := Nat.mod_lt k hpos
       rw [<- hk1, flat_get a.enc_length _ _ _ hk2, Option.bind_eq_some_iff] at hd
       obtain ⟨x, hx, hd⟩ := hd
       have hi : k / a.size < l + 1 := by
        have := (List.getElem?_eq_some_iff.1 hx).1
        omega
       obtain ⟨_, csi, hci, hho⟩ := hvs _ hi x hx
       obtain ⟨h1, h2⟩ := (cells_get hci).2 (k % a.size) oG
       rw [hadd, <- haz, hk1] at h1
       refine ⟨csi[k % a.size], by rw [h1]; simp [h2], hho.2 _ d _ hd (by simp [h2])⟩
      refine ⟨vs, fun x h => hvok x h, .one (by
       have hl2 : (List.length vs) = l + 1 := hvl
       show R _ _ _ (.sl (List.flatMap a.enc vs) (List.length vs)) _
       rw [hl2]
       refine .sl _ _ b o cap (fun k => (w.cell? ⟨b, o + k, none⟩).getD undef) (by simp) (fun _ _ h => by cases h) hb' hlc hm (fun k hkl => ?_) fun k d hd => ?_
       ·obtain ⟨u, h1, _, h3⟩ := hk k _ (List.getElem?_eq_getElem hkl)
        simp [h1, h3]
       ·obtain ⟨u, h1, h2, _⟩ := hk k d hd
        simpa [h1] using h2) rfl⟩
   ·cases h
  ·rename_i fs ht
   obtain ⟨xs, fl, rfl, _, _, hxl, hxs⟩ := DataW.trod_struct ht hr
   split at h
   ·rename_i s' hs'
    split at h
    ·rename_i hs
     simp only [Option.some.injEq] at h; subst h
     obtain ⟨v, hvo, hv⟩ := reads_fs (P := P) (w := w) (fun t s => shT_size n t s) (reads_T fl n) (cs := cs) fs.toList 0 s' hs' oG fun f hf => by
      obtain ⟨i, hi, rfl⟩ := Array.getElem_of_mem (Array.mem_toList_iff.1 hf)
      have := hxs i fs[i] (by simp [hi])
      exact ⟨xs[i], by rw [this]; simp [hxl, hi]⟩
     refine ⟨v, hvo, ?_⟩
     rw [List.drop_zero, List.take_of_length_le oG] at hv
     exact hv
    ·cases h
   ·cases h
  ·cases h
theorem arg_R {r : Reach} {b0 : Nat} {t : TypeId} {v : Value} {d : DataW H} {ps : List MemPlace} {n : Nat} {s : Sh} (hs : shT P n t = some s) (hv : Value.okWide P w r b0 t v) (hd : DataW.Trod ec P w base spare held t v d ps) :
  ∃ x : s.val, s.ok x /\ R (fun _ => False) noRows w (s.arg x) v := by
 cases n with
 | zero => cases hs
 | succ n =>
  obtain ⟨fuel, hf⟩ := hd
  have hz := shT_size _ _ _ hs
  have key : v.cells.toList.length = P.cellsOf t -> ∃ x : s.val, s.ok x /\ Holds w (s.enc x) v.cells.toList := fun hl => reads_T fuel (n + 1) t s _ _ hs hl hf
  unfold shT at hs
  split at hs
  ·rename_i ht
   obtain ⟨b, rfl⟩ := okWide_bool ht hv
   split at hs
   ·simp only [Option.some.injEq] at hs; subst hs
    exact ⟨b, trivial, .s _ rfl⟩
   ·cases hs
  ·rename_i k ht
   obtain ⟨b, rfl⟩ := okWide_int ht hv
   split at hs
   ·simp only [Option.some.injEq] at hs; subst hs
    obtain ⟨c, hc, _, hw⟩ := DataW.trod_int ht hf
    simp [Value.cells] at hc
    subst hc
    exact ⟨b, hw, .s _ rfl⟩
   ·cases hs
  ·rename_i ht
   obtain ⟨b, rfl⟩ := okWide_string ht hv
   split at hs
   ·simp only [Option.some.injEq] at hs; subst hs
    obtain ⟨c, hc, _, hw⟩ := DataW.trod_string ht hf
    simp [Value.cells] at hc
    subst hc
    exact ⟨b, hw, .s _ rfl⟩
   ·cases hs
  ·rename_i e ht
   obtain ⟨a, len, cap, rfl⟩ := okWide_slice ht hv
   split at hs
   ·rename_i h1
    simp only [Option.map_eq_some_iff] at hs
    obtain ⟨q, _, rfl⟩ := hs
    obtain ⟨x, hxo, hx⟩ := key h1.1.symm
    exact ⟨x, hxo, (hx.2 0 _ _ rfl rfl).1⟩
   ·cases hs
  ·rename_i fs ht
   obtain ⟨cs, rfl, hsz⟩ := okWide_struct ht hv
   obtain ⟨x, hxo, hx⟩ := key (by simpa [Value.cells] using hsz)
   refine ⟨x, hxo, ?_⟩
   have ha : s.arg x = .agg (s.enc x) := by
    split at hs
    ·rename_i s' hs'
     split at hs
     ·simp only [Option.some.injEq] at hs; subst hs
      cases hfs : fs.toList with
      | nil =>
       rw [hfs] at hs'
       obtain rfl := shFs_nil hs'
       rfl
      | cons f fs' =>
       rw [hfs] at hs'
       obtain ⟨_, a, b, _, _, rfl⟩ := shFs_cons hs'
       rfl
     ·cases hs
    ·cases hs
   rw [ha]
   have := hx.1
   simp only [Value.cells] at this hx
   have e : cs = cs.toList.toArray := by simp
   rw [e]
   exact .agg _ cs.toList this.symm fun k d v h1 h2 => (hx.2 k d v h1 h2).1
  ·cases hs
theorem flat_one {α β : Type} (f : α -> β) : ∀ l : List α, (l.flatMap fun x => [f x]) = l.map f
 | [] => rfl
 | x :: l => by rw [List.flatMap_cons, flat_one f l]; rfl
theorem flat_congr {α β γ : Type} {f : α -> List γ} {g : β -> List γ} {h : α -> β} (he : ∀ x, f x = g (h x)) : ∀ l : List α, l.flatMap f = (l.map h).flatMap g
 | [] => rfl
 | x :: l => by rw [List.flatMap_cons, List.map_cons, List.flatMap_cons, he, flat_congr he l]
end
end Go.Abs
end
section
namespace Go.Argus
open Go.Abs
abbrev i64Sh : Sh := .int .i64
abbrev u8Sh : Sh := .int .u8
abbrev insSh : Sh := .pair u8Sh (.pair i64Sh (.pair i64Sh (.pair i64Sh (.pair i64Sh (.pair (.sl i64Sh) .unit)))))
abbrev whenSh : Sh := .pair .str (.pair i64Sh .unit)
abbrev endSh : Sh := .pair u8Sh (.pair i64Sh (.pair i64Sh (.pair i64Sh (.pair i64Sh (.pair .str (.pair insSh (.pair (.sl i64Sh) (.pair (.sl whenSh) (.pair i64Sh .unit)))))))))
abbrev blockSh : Sh := .pair (.sl insSh) (.pair endSh .unit)
abbrev flowSh : Sh := .pair .str (.pair .bool (.pair i64Sh (.pair u8Sh (.pair (.sl u8Sh) (.pair (.sl u8Sh) (.pair (.sl .str) (.pair (.sl blockSh) .unit)))))))
def insOf (x : insSh.val) : Ins := ⟨x.1, x.2.1, x.2.2.1, x.2.2.2.1, x.2.2.2.2.1, x.2.2.2.2.2.1⟩
def whenOf (x : whenSh.val) : When := ⟨x.1, x.2.1⟩
def endOf (x : endSh.val) : End := ⟨x.1, x.2.1, x.2.2.1, x.2.2.2.1, x.2.2.2.2.1, x.2.2.2.2.2.1, insOf x.2.2.2.2.2.2.1, x.2.2.2.2.2.2.2.1, List.map whenOf x.2.2.2.2.2.2.2.2.1, x.2.2.2.2.2.2.2.2.2.1⟩
def blockOf (x : blockSh.val) : Block := ⟨List.map insOf x.1, endOf x.2.1⟩
def flowOf (x : flowSh.val) : Flow := ⟨x.1, x.2.1, x.2.2.1, x.2.2.2.1, x.2.2.2.2.1, x.2.2.2.2.2.1, x.2.2.2.2.2.2.1, List.map blockOf x.2.2.2.2.2.2.2.1⟩
theorem sl_int {k : IntKind} (l : List Int) : D.sl (List.flatMap (Sh.enc (.int k)) l) l.length = .sl (l.map fun n => .s (.int k n)) l.length := congrArg (D.sl · l.length) (flat_one (fun n => D.s (.int k n)) l)
theorem sl_str (l : List ByteArray) : D.sl (List.flatMap (Sh.enc .str) l) l.length = encStrs l := congrArg (D.sl · l.length) (flat_one S l)
theorem sl_of {s : Sh} {β : Type} {g : β -> List D} {h : s.val -> β} (he : ∀ x, s.enc x = g (h x)) (l : List s.val) : D.sl (List.flatMap s.enc l) l.length = .sl ((l.map h).flatMap g) (l.map h).length := by
 rw [flat_congr he l, List.length_map]
theorem c1' {α β : Type} (f : α -> β) {a a' : α} (h : a = a') : f a = f a' := by rw [h]
theorem c2' {α β γ : Type} (f : α -> β -> γ) {a a' : α} {b b' : β} (h : a = a') (h2 : b = b') : f a b = f a' b' := by rw [h, h2]
theorem c3' {α β γ δ : Type} (f : α -> β -> γ -> δ) {a a' : α} {b b' : β} {c c' : γ} (h : a = a') (h2 : b = b') (h3 : c = c') : f a b c = f a' b' c' := by rw [h, h2, h3]
theorem c4' {α β γ δ ε : Type} (f : α -> β -> γ -> δ -> ε) {a a' : α} {b b' : β} {c c' : γ} {d d' : δ} (h : a = a') (h2 : b = b') (h3 : c = c') (h4 : d = d') : f a b c d = f a' b' c' d' := by rw [h, h2, h3, h4]
theorem enc_ins (x : insSh.val) : insSh.enc x = encIns (insOf x) :=
 c1' (fun q => [U8 x.1, I x.2.1, I x.2.2.1, I x.2.2.2.1, I x.2.2.2.2.1, q]) (sl_int (k := .i64) x.2.2.2.2.2.1)
theorem enc_when (x : whenSh.val) : whenSh.enc x = encWhen (whenOf x) := rfl
theorem enc_end (x : endSh.val) : endSh.enc x = encEnd (endOf x) :=
 c3' (fun a b c => [U8 x.1, I x.2.1, I x.2.2.1, I x.2.2.2.1, I x.2.2.2.2.1, S x.2.2.2.2.2.1] ++ (a ++ [b, c, I x.2.2.2.2.2.2.2.2.2.1])) (enc_ins x.2.2.2.2.2.2.1) (sl_int (k := .i64) x.2.2.2.2.2.2.2.1) (sl_of enc_when x.2.2.2.2.2.2.2.2.1)
theorem enc_block (x : blockSh.val) : blockSh.enc x = encBlock (blockOf x) := by
 have := c2' (fun a b => a :: (b ++ [])) (sl_of enc_ins x.1) (enc_end x.2.1)
 refine Eq.trans this ?_
 rw [List.append_nil]
 rfl
theorem enc_flow (x : flowSh.val) : flowSh.arg x = .agg (encFlow (flowOf x)) :=
 c4' (fun a b c d => D.agg [S x.1, B x.2.1, I x.2.2.1, U8 x.2.2.2.1, a, b, c, d]) (sl_int (k := .u8) x.2.2.2.2.1) (sl_int (k := .u8) x.2.2.2.2.2.1) (sl_str x.2.2.2.2.2.2.1) (sl_of enc_block x.2.2.2.2.2.2.2.1)
end Go.Argus
end
section
namespace Go.Abs
open Go.Argus
class V {α : Type} (x : α) (y : outParam α) : Prop where h : x = y
section
variable {P : Program} {Y : YSpec} {ops : Array Oper} {dr : Bool} {cf : List (Nat × Nat)} {Q : Exit -> St -> Prop} {r : List Oper} {v : Env} {m : Mem} {n : Nat} {q : Tra} {x : Oper} {s : St} {e : List Nat × List Nat}
variable {t : Option Nat} {u : Nat} {ty : TypeId} {pos : String} {after : Array Edge} {j : Nat} {b c : Bool} {op : Op}
def SO (P : Program) (Y : YSpec) (ops : Array Oper) (dr : Bool) (o : Oper) (v : Env) (m : Mem) (n : Nat) (s : St) (e : List Nat × List Nat) : Prop :=
 ∀ cf Q r q, AOps P Y ops dr cf Q r s (q ++ [e]) -> AOps P Y ops dr cf Q (o :: r) ⟨v, m, n⟩ q
theorem ak {l : List Operand} (h : AskL v l := by repeat' (first | exact trivial | exact hc | exact rfl | refine And.intro ?_ ?_)) : AskL v l := h
theorem z (K : ∀ (x : D) rd, AOps P Y ops dr cf Q r (St.put ⟨v, m, n⟩ t (.opt false x)) (q ++ [(rd, [])])) (hj : (ops[j]?).bind (·.dst) = some u := by exact rfl) (hg : guardC (v u) b = some false := by exact rfl) :
  AOps P Y ops dr cf Q (⟨t, op, ty, pos, after, some (j, b)⟩ :: r) ⟨v, m, n⟩ q := ao_gf hj hg K
theorem cl {f : FuncId} {gs : List D} {d : D} {t : Nat} (h : PCall P f gs d) (K : AOps P Y ops dr cf Q r ⟨up v t d, m, n⟩ (q ++ [([], [])])) (hc : callD (rho v op) op = some (f, gs) := by exact rfl) (ha : AskL v op.operands.toList := by exact ak) :
  AOps P Y ops dr cf Q (⟨some t, op, ty, pos, after, none⟩ :: r) ⟨v, m, n⟩ q := ao_pc h hc ha K
theorem gc {f : FuncId} {gs : List D} {d : D} {t : Nat} (h : PCall P f gs d) (K : AOps P Y ops dr cf Q r ⟨up v t (.opt c d), m, n⟩ (q ++ [([], [])])) (hj : (ops[j]?).bind (·.dst) = some u := by exact rfl) (hg : guardC (v u) b = some c := by exact rfl) (hl : callD (rho v op) op = some (f, gs) := by exact rfl) (ha : c = true -> AskL v op.operands.toList := by exact fun hc => ak) :
  AOps P Y ops dr cf Q (⟨some t, op, ty, pos, after, some (j, b)⟩ :: r) ⟨v, m, n⟩ q := ao_gpc hj hg hl (fun hc => ⟨ha hc, h⟩) K
theorem J0 (K : AOps P Y ops dr cf Q r s (q ++ [e])) (h : SO P Y ops dr x v m n s e := by intro _ _ _ _ k; exact ao_p (e_move (v := .s (.int _ _)) rfl) ak trivial k) : AOps P Y ops dr cf Q (x :: r) ⟨v, m, n⟩ q := h _ _ _ _ K
theorem J1 (K : AOps P Y ops dr cf Q r s (q ++ [e])) (h : SO P Y ops dr x v m n s e := by intro _ _ _ _ k; exact ao_p (e_assign (v := .s (.bool _)) rfl) ak trivial k) : AOps P Y ops dr cf Q (x :: r) ⟨v, m, n⟩ q := h _ _ _ _ K
theorem J2 (K : AOps P Y ops dr cf Q r s (q ++ [e])) (h : SO P Y ops dr x v m n s e := by intro _ _ _ _ k; exact ao_p (e_move (v := .s (.bool _)) rfl) ak trivial k) : AOps P Y ops dr cf Q (x :: r) ⟨v, m, n⟩ q := h _ _ _ _ K
theorem J3 (K : AOps P Y ops dr cf Q r s (q ++ [e])) (h : SO P Y ops dr x v m n s e := by intro _ _ _ _ k; exact ao_p (e_assign (v := .s (.int _ _)) rfl) ak trivial k) : AOps P Y ops dr cf Q (x :: r) ⟨v, m, n⟩ q := h _ _ _ _ K
theorem J4 (K : AOps P Y ops dr cf Q r s (q ++ [e])) (h : SO P Y ops dr x v m n s e := by intro _ _ _ _ k; exact ao_p (e_load rfl V.h) ak (p_load V.h V.h) k) : AOps P Y ops dr cf Q (x :: r) ⟨v, m, n⟩ q := h _ _ _ _ K
theorem J5 (K : AOps P Y ops dr cf Q r s (q ++ [e])) (h : SO P Y ops dr x v m n s e := by intro _ _ _ _ k; exact ao_p (e_faddr rfl V.h) ak (p_pos V.h) k) : AOps P Y ops dr cf Q (x :: r) ⟨v, m, n⟩ q := h _ _ _ _ K
theorem J6 (K : AOps P Y ops dr cf Q r s (q ++ [e])) (h : SO P Y ops dr x v m n s e := by intro _ _ _ _ k; exact ao_g rfl rfl (e_load rfl V.h) (fun hc => ⟨ak, (p_load V.h V.h)⟩) k) : AOps P Y ops dr cf Q (x :: r) ⟨v, m, n⟩ q := h _ _ _ _ K
theorem J7 (K : AOps P Y ops dr cf Q r s (q ++ [e])) (h : SO P Y ops dr x v m n s e := by intro _ _ _ _ k; exact ao_g rfl rfl (e_faddr rfl V.h) (fun hc => ⟨ak, (p_pos V.h)⟩) k) : AOps P Y ops dr cf Q (x :: r) ⟨v, m, n⟩ q := h _ _ _ _ K
theorem J8 (K : AOps P Y ops dr cf Q r s (q ++ [e])) (h : SO P Y ops dr x v m n s e := by intro _ _ _ _ k; exact ao_p (e_eql rfl rfl) ak rfl k) : AOps P Y ops dr cf Q (x :: r) ⟨v, m, n⟩ q := h _ _ _ _ K
theorem J9 (K : AOps P Y ops dr cf Q r s (q ++ [e])) (h : SO P Y ops dr x v m n s e := by intro _ _ _ _ k; exact ao_pick rfl rfl rfl (fun h => by first | exact trivial | exact rfl | exact h | (show Eq _ _; rw [h]; rfl) | (show Eq _ _; simp [h]; done) | (show Eq _ _; simp_all; done)) (fun h => by first | exact trivial | exact rfl | exact h | (show Eq _ _; rw [h]; rfl) | (show Eq _ _; simp [h]; done) | (show Eq _ _; simp_all; done)) k) : AOps P Y ops dr cf Q (x :: r) ⟨v, m, n⟩ q := h _ _ _ _ K
theorem J10 (K : AOps P Y ops dr cf Q r s (q ++ [e])) (h : SO P Y ops dr x v m n s e := by intro _ _ _ _ k; exact ao_g rfl rfl (e_move (v := .s (.int _ _)) rfl) (fun hc => ⟨ak, trivial⟩) k) : AOps P Y ops dr cf Q (x :: r) ⟨v, m, n⟩ q := h _ _ _ _ K
theorem J11 (K : AOps P Y ops dr cf Q r s (q ++ [e])) (h : SO P Y ops dr x v m n s e := by intro _ _ _ _ k; exact ao_p (e_add rfl rfl oG) ak rfl k) : AOps P Y ops dr cf Q (x :: r) ⟨v, m, n⟩ q := h _ _ _ _ K
theorem J12 (K : AOps P Y ops dr cf Q r s (q ++ [e])) (h : SO P Y ops dr x v m n s e := by intro _ _ _ _ k; exact ao_p (e_move (v := .rs _ _ _) rfl) ak trivial k) : AOps P Y ops dr cf Q (x :: r) ⟨v, m, n⟩ q := h _ _ _ _ K
theorem J13 (K : AOps P Y ops dr cf Q r s (q ++ [e])) (h : SO P Y ops dr x v m n s e := by intro _ _ _ _ k; exact ao_pickF rfl rfl (by first | exact trivial | exact rfl) k) : AOps P Y ops dr cf Q (x :: r) ⟨v, m, n⟩ q := h _ _ _ _ K
theorem J14 (K : AOps P Y ops dr cf Q r s (q ++ [e])) (h : SO P Y ops dr x v m n s e := by intro _ _ _ _ k; exact ao_p (e_faddrR rfl rfl V.h) ak (p_pos V.h) k) : AOps P Y ops dr cf Q (x :: r) ⟨v, m, n⟩ q := h _ _ _ _ K
theorem J15 (K : AOps P Y ops dr cf Q r s (q ++ [e])) (h : SO P Y ops dr x v m n s e := by intro _ _ _ _ k; exact ao_p (e_len rfl) ak V.h k) : AOps P Y ops dr cf Q (x :: r) ⟨v, m, n⟩ q := h _ _ _ _ K
theorem J16 (K : AOps P Y ops dr cf Q r s (q ++ [e])) (h : SO P Y ops dr x v m n s e := by intro _ _ _ _ k; exact ao_p (e_lss rfl rfl) ak rfl k) : AOps P Y ops dr cf Q (x :: r) ⟨v, m, n⟩ q := h _ _ _ _ K
theorem J17 (K : AOps P Y ops dr cf Q r s (q ++ [e])) (h : SO P Y ops dr x v m n s e := by intro _ _ _ _ k; exact ao_p (e_move (v := .sl _ _) rfl) ak trivial k) : AOps P Y ops dr cf Q (x :: r) ⟨v, m, n⟩ q := h _ _ _ _ K
theorem J18 (K : AOps P Y ops dr cf Q r s (q ++ [e])) (h : SO P Y ops dr x v m n s e := by intro _ _ _ _ k; exact ao_p (e_assign (v := .rs _ _ _) rfl) ak trivial k) : AOps P Y ops dr cf Q (x :: r) ⟨v, m, n⟩ q := h _ _ _ _ K
theorem J19 (K : AOps P Y ops dr cf Q r s (q ++ [e])) (h : SO P Y ops dr x v m n s e := by intro _ _ _ _ k; exact ao_pickT rfl rfl (by first | exact trivial | exact rfl) k) : AOps P Y ops dr cf Q (x :: r) ⟨v, m, n⟩ q := h _ _ _ _ K
theorem J20 (K : AOps P Y ops dr cf Q r s (q ++ [e])) (h : SO P Y ops dr x v m n s e := by intro _ _ _ _ k; exact ao_g rfl rfl (e_eql rfl rfl) (fun hc => ⟨ak, rfl⟩) k) : AOps P Y ops dr cf Q (x :: r) ⟨v, m, n⟩ q := h _ _ _ _ K
theorem J21 (K : AOps P Y ops dr cf Q r s (q ++ [e])) (h : SO P Y ops dr x v m n s e := by intro _ _ _ _ k; exact ao_p (e_idx1 rfl rfl V.h V.h (by assumption)) ak (p_idx1 V.h (by assumption)) k) : AOps P Y ops dr cf Q (x :: r) ⟨v, m, n⟩ q := h _ _ _ _ K
theorem J22 (K : AOps P Y ops dr cf Q r s (q ++ [e])) (h : SO P Y ops dr x v m n s e := by intro _ _ _ _ k; exact ao_g rfl rfl (e_loadA (vs := encCode _ _ _) rfl V.h V.h rfl) (fun hc => ⟨ak, (p_loadA V.h V.h (by simp))⟩) k) : AOps P Y ops dr cf Q (x :: r) ⟨v, m, n⟩ q := h _ _ _ _ K
theorem J23 (K : AOps P Y ops dr cf Q r s (q ++ [e])) (h : SO P Y ops dr x v m n s e := by intro _ _ _ _ k; exact ao_p (e_assign (v := .z) rfl) ak trivial k) : AOps P Y ops dr cf Q (x :: r) ⟨v, m, n⟩ q := h _ _ _ _ K
theorem J24 (K : AOps P Y ops dr cf Q r s (q ++ [e])) (h : SO P Y ops dr x v m n s e := by intro _ _ _ _ k; exact ao_a (e_alloc V.h) ak V.h k) : AOps P Y ops dr cf Q (x :: r) ⟨v, m, n⟩ q := h _ _ _ _ K
theorem J25 (K : AOps P Y ops dr cf Q r s (q ++ [e])) (h : SO P Y ops dr x v m n s e := by intro _ _ _ _ k; exact ao_w (e_store1 (d := .s (.int _ _)) (cs' := _) rfl rfl rfl rfl rfl) ak (p_store V.h V.h (by first | (simp; done) | exact ⟨rfl, Nat.le_of_ble_eq_true rfl⟩ | (simp; omega)) rfl) k) : AOps P Y ops dr cf Q (x :: r) ⟨v, m, n⟩ q := h _ _ _ _ K
theorem J26 (K : AOps P Y ops dr cf Q r s (q ++ [e])) (h : SO P Y ops dr x v m n s e := by intro _ _ _ _ k; exact ao_p (e_loadR rfl rfl rfl V.h) ak (p_loadR V.h V.h rfl) k) : AOps P Y ops dr cf Q (x :: r) ⟨v, m, n⟩ q := h _ _ _ _ K
theorem J27 (K : AOps P Y ops dr cf Q r s (q ++ [e])) (h : SO P Y ops dr x v m n s e := by intro _ _ _ _ k; exact ao_g rfl rfl (e_move (v := .s (.bool _)) rfl) (fun hc => ⟨ak, trivial⟩) k) : AOps P Y ops dr cf Q (x :: r) ⟨v, m, n⟩ q := h _ _ _ _ K
theorem J28 (K : AOps P Y ops dr cf Q r s (q ++ [e])) (h : SO P Y ops dr x v m n s e := by intro _ _ _ _ k; exact ao_p (e_move (v := _) rfl) ak trivial k) : AOps P Y ops dr cf Q (x :: r) ⟨v, m, n⟩ q := h _ _ _ _ K
theorem J29 (K : AOps P Y ops dr cf Q r s (q ++ [e])) (h : SO P Y ops dr x v m n s e := by intro _ _ _ _ k; exact ao_p (e_loadA (vs := encFlow _) rfl V.h V.h rfl) ak (p_loadA V.h V.h (by simp)) k) : AOps P Y ops dr cf Q (x :: r) ⟨v, m, n⟩ q := h _ _ _ _ K
theorem J30 (K : AOps P Y ops dr cf Q r s (q ++ [e])) (h : SO P Y ops dr x v m n s e := by intro _ _ _ _ k; exact ao_g rfl rfl (e_len rfl) (fun hc => ⟨ak, V.h⟩) k) : AOps P Y ops dr cf Q (x :: r) ⟨v, m, n⟩ q := h _ _ _ _ K
theorem J31 (K : AOps P Y ops dr cf Q r s (q ++ [e])) (h : SO P Y ops dr x v m n s e := by intro _ _ _ _ k; exact ao_p (e_move (v := .pt _) rfl) ak trivial k) : AOps P Y ops dr cf Q (x :: r) ⟨v, m, n⟩ q := h _ _ _ _ K
theorem J32 (K : AOps P Y ops dr cf Q r s (q ++ [e])) (h : SO P Y ops dr x v m n s e := by intro _ _ _ _ k; exact ao_p (e_not rfl) ak trivial k) : AOps P Y ops dr cf Q (x :: r) ⟨v, m, n⟩ q := h _ _ _ _ K
theorem J33 (K : AOps P Y ops dr cf Q r s (q ++ [e])) (h : SO P Y ops dr x v m n s e := by intro _ _ _ _ k; exact ao_g rfl rfl (e_not rfl) (fun hc => ⟨ak, trivial⟩) k) : AOps P Y ops dr cf Q (x :: r) ⟨v, m, n⟩ q := h _ _ _ _ K
theorem J34 (K : AOps P Y ops dr cf Q r s (q ++ [e])) (h : SO P Y ops dr x v m n s e := by intro _ _ _ _ k; exact ao_p (e_extract (v := .s (.int _ _)) rfl rfl) ak (by first | decide | simp) k) : AOps P Y ops dr cf Q (x :: r) ⟨v, m, n⟩ q := h _ _ _ _ K
theorem J35 (K : AOps P Y ops dr cf Q r s (q ++ [e])) (h : SO P Y ops dr x v m n s e := by intro _ _ _ _ k; exact ao_p (e_neq rfl rfl) ak rfl k) : AOps P Y ops dr cf Q (x :: r) ⟨v, m, n⟩ q := h _ _ _ _ K
theorem J36 (K : AOps P Y ops dr cf Q r s (q ++ [e])) (h : SO P Y ops dr x v m n s e := by intro _ _ _ _ k; exact ao_p (e_build2 V.h V.h V.h rfl rfl) ak ⟨V.h, V.h⟩ k) : AOps P Y ops dr cf Q (x :: r) ⟨v, m, n⟩ q := h _ _ _ _ K
theorem J37 (K : AOps P Y ops dr cf Q r s (q ++ [e])) (h : SO P Y ops dr x v m n s e := by intro _ _ _ _ k; exact ao_w (e_insert rfl rfl rfl rfl V.h) ak ⟨V.h, by kernel_rfl, by kernel_rfl⟩ k) : AOps P Y ops dr cf Q (x :: r) ⟨v, m, n⟩ q := h _ _ _ _ K
theorem J38 (K : AOps P Y ops dr cf Q r s (q ++ [e])) (h : SO P Y ops dr x v m n s e := by intro _ _ _ _ k; exact ao_p (e_idxRi rfl rfl rfl V.h V.h) ak ⟨V.h, by omega⟩ k) : AOps P Y ops dr cf Q (x :: r) ⟨v, m, n⟩ q := h _ _ _ _ K
theorem J39 (K : AOps P Y ops dr cf Q r s (q ++ [e])) (h : SO P Y ops dr x v m n s e := by intro _ _ _ _ k; exact ao_p (e_extract (v := .s (.bool _)) rfl rfl) ak (by first | decide | simp) k) : AOps P Y ops dr cf Q (x :: r) ⟨v, m, n⟩ q := h _ _ _ _ K
theorem J40 (K : AOps P Y ops dr cf Q r s (q ++ [e])) (h : SO P Y ops dr x v m n s e := by intro _ _ _ _ k; exact ao_a (e_buildSl (cs := [_]) V.h V.h V.h rfl rfl) ak ⟨rfl, by decide, V.h, by decide⟩ k) : AOps P Y ops dr cf Q (x :: r) ⟨v, m, n⟩ q := h _ _ _ _ K
theorem J41 (K : AOps P Y ops dr cf Q r s (q ++ [e])) (h : SO P Y ops dr x v m n s e := by intro _ _ _ _ k; exact ao_g rfl rfl (e_gtr rfl rfl) (fun hc => ⟨ak, rfl⟩) k) : AOps P Y ops dr cf Q (x :: r) ⟨v, m, n⟩ q := h _ _ _ _ K
theorem J42 (K : AOps P Y ops dr cf Q r s (q ++ [e])) (h : SO P Y ops dr x v m n s e := by intro _ _ _ _ k; exact ao_p (e_move (v := .fn _ _ _) rfl) ak trivial k) : AOps P Y ops dr cf Q (x :: r) ⟨v, m, n⟩ q := h _ _ _ _ K
theorem J43 (K : AOps P Y ops dr cf Q r s (q ++ [e])) (h : SO P Y ops dr x v m n s e := by intro _ _ _ _ k; exact ao_a (e_boxA (cs := encFlow _) rfl) ak (by first | rfl | exact one_code hp1 hq1 | exact oneW _ | exact one_S hd1) k) : AOps P Y ops dr cf Q (x :: r) ⟨v, m, n⟩ q := h _ _ _ _ K
theorem J44 (K : AOps P Y ops dr cf Q r s (q ++ [e])) (h : SO P Y ops dr x v m n s e := by intro _ _ _ _ k; exact ao_p (e_assign (v := .sl _ _) rfl) ak trivial k) : AOps P Y ops dr cf Q (x :: r) ⟨v, m, n⟩ q := h _ _ _ _ K
theorem J45 (K : AOps P Y ops dr cf Q r s (q ++ [e])) (h : SO P Y ops dr x v m n s e := by intro _ _ _ _ k; exact ao_p (e_nilP rfl) ak trivial k) : AOps P Y ops dr cf Q (x :: r) ⟨v, m, n⟩ q := h _ _ _ _ K
theorem J46 (K : AOps P Y ops dr cf Q r s (q ++ [e])) (h : SO P Y ops dr x v m n s e := by intro _ _ _ _ k; exact ao_g rfl rfl (e_neq rfl rfl) (fun hc => ⟨ak, rfl⟩) k) : AOps P Y ops dr cf Q (x :: r) ⟨v, m, n⟩ q := h _ _ _ _ K
theorem J47 (K : AOps P Y ops dr cf Q r s (q ++ [e])) (h : SO P Y ops dr x v m n s e := by intro _ _ _ _ k; exact ao_g rfl rfl (e_move (v := .sl _ _) rfl) (fun hc => ⟨ak, trivial⟩) k) : AOps P Y ops dr cf Q (x :: r) ⟨v, m, n⟩ q := h _ _ _ _ K
theorem J48 (K : AOps P Y ops dr cf Q r s (q ++ [e])) (h : SO P Y ops dr x v m n s e := by intro _ _ _ _ k; exact ao_p (e_loadA (vs := encCode _ _ _) rfl V.h V.h rfl) ak (p_loadA V.h V.h (by simp)) k) : AOps P Y ops dr cf Q (x :: r) ⟨v, m, n⟩ q := h _ _ _ _ K
theorem J49 (K : AOps P Y ops dr cf Q r s (q ++ [e])) (h : SO P Y ops dr x v m n s e := by intro _ _ _ _ k; exact ao_g rfl rfl (e_faddrR rfl rfl V.h) (fun hc => ⟨ak, (p_pos V.h)⟩) k) : AOps P Y ops dr cf Q (x :: r) ⟨v, m, n⟩ q := h _ _ _ _ K
theorem J50 (K : AOps P Y ops dr cf Q r s (q ++ [e])) (h : SO P Y ops dr x v m n s e := by intro _ _ _ _ k; exact ao_w (e_store1 (d := .z) (cs' := _) rfl rfl rfl rfl rfl) ak (p_store V.h V.h (by first | (simp; done) | exact ⟨rfl, Nat.le_of_ble_eq_true rfl⟩ | (simp; omega)) rfl) k) : AOps P Y ops dr cf Q (x :: r) ⟨v, m, n⟩ q := h _ _ _ _ K
theorem J51 (K : AOps P Y ops dr cf Q r s (q ++ [e])) (h : SO P Y ops dr x v m n s e := by intro _ _ _ _ k; exact ao_g rfl rfl (e_move (v := .pt _) rfl) (fun hc => ⟨ak, trivial⟩) k) : AOps P Y ops dr cf Q (x :: r) ⟨v, m, n⟩ q := h _ _ _ _ K
theorem J52 (K : AOps P Y ops dr cf Q r s (q ++ [e])) (h : SO P Y ops dr x v m n s e := by intro _ _ _ _ k; exact ao_g rfl rfl (e_loadR rfl rfl rfl V.h) (fun hc => ⟨ak, (p_loadR V.h V.h rfl)⟩) k) : AOps P Y ops dr cf Q (x :: r) ⟨v, m, n⟩ q := h _ _ _ _ K
theorem J53 (K : AOps P Y ops dr cf Q r s (q ++ [e])) (h : SO P Y ops dr x v m n s e := by intro _ _ _ _ k; exact ao_p (e_loadR rfl hrow rfl V.h) ak (p_loadR V.h V.h rfl) k) : AOps P Y ops dr cf Q (x :: r) ⟨v, m, n⟩ q := h _ _ _ _ K
theorem J54 (K : AOps P Y ops dr cf Q r s (q ++ [e])) (h : SO P Y ops dr x v m n s e := by intro _ _ _ _ k; exact ao_p (e_idxF rfl rfl V.h V.h (len_enc72) (by assumption)) ak (p_idxF V.h (len_enc72) (by assumption)) k) : AOps P Y ops dr cf Q (x :: r) ⟨v, m, n⟩ q := h _ _ _ _ K
theorem J55 (K : AOps P Y ops dr cf Q r s (q ++ [e])) (h : SO P Y ops dr x v m n s e := by intro _ _ _ _ k; exact ao_g rfl rfl (e_idx1 rfl rfl V.h V.h (by assumption)) (fun hc => ⟨ak, (p_idx1 V.h (by assumption))⟩) k) : AOps P Y ops dr cf Q (x :: r) ⟨v, m, n⟩ q := h _ _ _ _ K
theorem J56 (K : AOps P Y ops dr cf Q r s (q ++ [e])) (h : SO P Y ops dr x v m n s e := by intro _ _ _ _ k; exact ao_p (e_eqlK rfl rfl keql) ak rfl k) : AOps P Y ops dr cf Q (x :: r) ⟨v, m, n⟩ q := h _ _ _ _ K
theorem J57 (K : AOps P Y ops dr cf Q r s (q ++ [e])) (h : SO P Y ops dr x v m n s e := by intro _ _ _ _ k; exact ao_a (e_boxA rfl) ak (by first | rfl | exact one_code hp1 hq1 | exact oneW _ | exact one_S hd1) k) : AOps P Y ops dr cf Q (x :: r) ⟨v, m, n⟩ q := h _ _ _ _ K
theorem J58 (K : AOps P Y ops dr cf Q r s (q ++ [e])) (h : SO P Y ops dr x v m n s e := by intro _ _ _ _ k; exact ao_p (e_idxPi rfl rfl rfl V.h V.h V.h) ak ⟨V.h, by omega⟩ k) : AOps P Y ops dr cf Q (x :: r) ⟨v, m, n⟩ q := h _ _ _ _ K
theorem J59 (K : AOps P Y ops dr cf Q r s (q ++ [e])) (h : SO P Y ops dr x v m n s e := by intro _ _ _ _ k; exact ao_p (e_loadA (vs := encIns _) rfl V.h V.h rfl) ak (p_loadA V.h V.h (by simp)) k) : AOps P Y ops dr cf Q (x :: r) ⟨v, m, n⟩ q := h _ _ _ _ K
theorem J60 (K : AOps P Y ops dr cf Q r s (q ++ [e])) (h : SO P Y ops dr x v m n s e := by intro _ _ _ _ k; exact ao_a (e_boxA (cs := encCode _ _ _) rfl) ak (by first | rfl | exact one_code hp1 hq1 | exact oneW _ | exact one_S hd1) k) : AOps P Y ops dr cf Q (x :: r) ⟨v, m, n⟩ q := h _ _ _ _ K
theorem J61 (K : AOps P Y ops dr cf Q r s (q ++ [e])) (h : SO P Y ops dr x v m n s e := by intro _ _ _ _ k; exact ao_p (e_geq rfl rfl) ak rfl k) : AOps P Y ops dr cf Q (x :: r) ⟨v, m, n⟩ q := h _ _ _ _ K
theorem J62 (K : AOps P Y ops dr cf Q r s (q ++ [e])) (h : SO P Y ops dr x v m n s e := by intro _ _ _ _ k; exact ao_p (e_loadA (vs := encBlock _) rfl V.h V.h rfl) ak (p_loadA V.h V.h (by simp)) k) : AOps P Y ops dr cf Q (x :: r) ⟨v, m, n⟩ q := h _ _ _ _ K
theorem J63 (K : AOps P Y ops dr cf Q r s (q ++ [e])) (h : SO P Y ops dr x v m n s e := by intro _ _ _ _ k; exact ao_gpick rfl rfl rfl rfl rfl (by first | exact fun _ => trivial | exact fun _ => rfl | exact fun hc => hc) (fun hc h => by first | exact trivial | exact rfl | exact hc | (show Eq _ _; rw [hc, h]; rfl) | (show Eq _ _; rw [h, hc]; rfl) | (show Eq _ _; simp [hc, h]; done) | (show Eq _ _; simp_all; done)) (fun hc h => by first | exact trivial | exact rfl | exact hc | (show Eq _ _; rw [hc, h]; rfl) | (show Eq _ _; rw [h, hc]; rfl) | (show Eq _ _; simp [hc, h]; done) | (show Eq _ _; simp_all; done)) k) : AOps P Y ops dr cf Q (x :: r) ⟨v, m, n⟩ q := h _ _ _ _ K
theorem J64 (K : AOps P Y ops dr cf Q r s (q ++ [e])) (h : SO P Y ops dr x v m n s e := by intro _ _ _ _ k; exact ao_p (e_loadRA rfl rfl V.h V.h (takeW (by first | rfl | exact Nat.le_of_ble_eq_true rfl | (simp; done) | (simp; omega) | omega))) ak (p_loadRA V.h V.h (by first | rfl | exact Nat.le_of_ble_eq_true rfl | (simp; done) | (simp; omega) | omega)) k) : AOps P Y ops dr cf Q (x :: r) ⟨v, m, n⟩ q := h _ _ _ _ K
theorem J65 (K : AOps P Y ops dr cf Q r s (q ++ [e])) (h : SO P Y ops dr x v m n s e := by intro _ _ _ _ k; exact ao_p (e_neqK rfl rfl kneq) ak rfl k) : AOps P Y ops dr cf Q (x :: r) ⟨v, m, n⟩ q := h _ _ _ _ K
theorem J66 (K : AOps P Y ops dr cf Q r s (q ++ [e])) (h : SO P Y ops dr x v m n s e := by intro _ _ _ _ k; exact ao_p (e_func rfl rfl) ak trivial k) : AOps P Y ops dr cf Q (x :: r) ⟨v, m, n⟩ q := h _ _ _ _ K
theorem J67 (K : AOps P Y ops dr cf Q r s (q ++ [e])) (h : SO P Y ops dr x v m n s e := by intro _ _ _ _ k; exact ao_a (e_boxA (cs := encIns _) rfl) ak (by first | rfl | exact one_code hp1 hq1 | exact oneW _ | exact one_S hd1) k) : AOps P Y ops dr cf Q (x :: r) ⟨v, m, n⟩ q := h _ _ _ _ K
theorem J68 (K : AOps P Y ops dr cf Q r s (q ++ [e])) (h : SO P Y ops dr x v m n s e := by intro _ _ _ _ k; exact ao_a (e_boxA (cs := encEnd _) rfl) ak (by first | rfl | exact one_code hp1 hq1 | exact oneW _ | exact one_S hd1) k) : AOps P Y ops dr cf Q (x :: r) ⟨v, m, n⟩ q := h _ _ _ _ K
theorem J69 (K : AOps P Y ops dr cf Q r s (q ++ [e])) (h : SO P Y ops dr x v m n s e := by intro _ _ _ _ k; exact ao_p (e_loadR rfl rfl kd V.h) ak (p_loadR V.h V.h kd) k) : AOps P Y ops dr cf Q (x :: r) ⟨v, m, n⟩ q := h _ _ _ _ K
theorem J70 (K : AOps P Y ops dr cf Q r s (q ++ [e])) (h : SO P Y ops dr x v m n s e := by intro _ _ _ _ k; exact ao_p (e_extract (v := .sl _ _) rfl rfl) ak (by first | decide | simp) k) : AOps P Y ops dr cf Q (x :: r) ⟨v, m, n⟩ q := h _ _ _ _ K
theorem J71 (K : AOps P Y ops dr cf Q r s (q ++ [e])) (h : SO P Y ops dr x v m n s e := by intro _ _ _ _ k; exact ao_p (e_sub rfl rfl oG) ak rfl k) : AOps P Y ops dr cf Q (x :: r) ⟨v, m, n⟩ q := h _ _ _ _ K
theorem J72 (K : AOps P Y ops dr cf Q r s (q ++ [e])) (h : SO P Y ops dr x v m n s e := by intro _ _ _ _ k; exact ao_p (e_loadA (vs := encEnd _) rfl V.h V.h rfl) ak (p_loadA V.h V.h (by simp)) k) : AOps P Y ops dr cf Q (x :: r) ⟨v, m, n⟩ q := h _ _ _ _ K
theorem J73 (K : AOps P Y ops dr cf Q r s (q ++ [e])) (h : SO P Y ops dr x v m n s e := by intro _ _ _ _ k; exact ao_g rfl rfl (e_loadA (vs := encEnd _) rfl V.h V.h rfl) (fun hc => ⟨ak, (p_loadA V.h V.h (by simp))⟩) k) : AOps P Y ops dr cf Q (x :: r) ⟨v, m, n⟩ q := h _ _ _ _ K
theorem J74 (K : AOps P Y ops dr cf Q r s (q ++ [e])) (h : SO P Y ops dr x v m n s e := by intro _ _ _ _ k; exact ao_g rfl rfl (e_nilP rfl) (fun hc => ⟨ak, trivial⟩) k) : AOps P Y ops dr cf Q (x :: r) ⟨v, m, n⟩ q := h _ _ _ _ K
theorem J75 (K : AOps P Y ops dr cf Q r s (q ++ [e])) (h : SO P Y ops dr x v m n s e := by intro _ _ _ _ k; exact ao_p (e_idxRi rfl rfl hrow V.h V.h) ak ⟨V.h, by omega⟩ k) : AOps P Y ops dr cf Q (x :: r) ⟨v, m, n⟩ q := h _ _ _ _ K
theorem J76 (K : AOps P Y ops dr cf Q r s (q ++ [e])) (h : SO P Y ops dr x v m n s e := by intro _ _ _ _ k; exact ao_p (e_idxF rfl rfl V.h V.h (len_enc66) (by assumption)) ak (p_idxF V.h (len_enc66) (by assumption)) k) : AOps P Y ops dr cf Q (x :: r) ⟨v, m, n⟩ q := h _ _ _ _ K
theorem J77 (K : AOps P Y ops dr cf Q r s (q ++ [e])) (h : SO P Y ops dr x v m n s e := by intro _ _ _ _ k; exact ao_w (e_storeA rfl rfl rfl (spliceW (by first | rfl | exact Nat.le_of_ble_eq_true rfl | (simp; done) | (simp; omega) | omega) (by first | rfl | exact Nat.le_of_ble_eq_true rfl | (simp; done) | (simp; omega) | omega))) ak (p_storeW (by first | rfl | exact Nat.le_of_ble_eq_true rfl | (simp; done) | (simp; omega) | omega) (by first | rfl | exact Nat.le_of_ble_eq_true rfl | (simp; done) | (simp; omega) | omega) (by first | rfl | exact oneW _ | (simp [oneW]; done) | exact oneW_set)) k) : AOps P Y ops dr cf Q (x :: r) ⟨v, m, n⟩ q := h _ _ _ _ K
theorem J78 (K : AOps P Y ops dr cf Q r s (q ++ [e])) (h : SO P Y ops dr x v m n s e := by intro _ _ _ _ k; exact ao_w (e_storeA (cs' := encBlock _) rfl rfl (up_same _ _ _) rfl) ak (p_store V.h V.h (by first | (simp; done) | exact ⟨rfl, Nat.le_of_ble_eq_true rfl⟩ | (simp; omega)) (by rfl)) k) : AOps P Y ops dr cf Q (x :: r) ⟨v, m, n⟩ q := h _ _ _ _ K
theorem J79 (K : AOps P Y ops dr cf Q r s (q ++ [e])) (h : SO P Y ops dr x v m n s e := by intro _ _ _ _ k; exact ao_p (e_assign (v := .s (.pointer none)) rfl) ak trivial k) : AOps P Y ops dr cf Q (x :: r) ⟨v, m, n⟩ q := h _ _ _ _ K
theorem J80 (K : AOps P Y ops dr cf Q r s (q ++ [e])) (h : SO P Y ops dr x v m n s e := by intro _ _ _ _ k; exact ao_p (e_move (v := .rp _ _) rfl) ak trivial k) : AOps P Y ops dr cf Q (x :: r) ⟨v, m, n⟩ q := h _ _ _ _ K
theorem J81 (K : AOps P Y ops dr cf Q r s (q ++ [e])) (h : SO P Y ops dr x v m n s e := by intro _ _ _ _ k; exact ao_p (e_move (v := .mp _) rfl) ak trivial k) : AOps P Y ops dr cf Q (x :: r) ⟨v, m, n⟩ q := h _ _ _ _ K
theorem J82 (K : AOps P Y ops dr cf Q r s (q ++ [e])) (h : SO P Y ops dr x v m n s e := by intro _ _ _ _ k; exact ao_g rfl rfl (e_gtrK rfl rfl kgtr) (fun hc => ⟨ak, rfl⟩) k) : AOps P Y ops dr cf Q (x :: r) ⟨v, m, n⟩ q := h _ _ _ _ K
theorem J83 (K : AOps P Y ops dr cf Q r s (q ++ [e])) (h : SO P Y ops dr x v m n s e := by intro _ _ _ _ k; exact ao_w (e_store1 (d := .s (.string _)) (cs' := _) rfl rfl rfl rfl rfl) ak (p_store V.h V.h (by first | (simp; done) | exact ⟨rfl, Nat.le_of_ble_eq_true rfl⟩ | (simp; omega)) rfl) k) : AOps P Y ops dr cf Q (x :: r) ⟨v, m, n⟩ q := h _ _ _ _ K
theorem J84 (K : AOps P Y ops dr cf Q r s (q ++ [e])) (h : SO P Y ops dr x v m n s e := by intro _ _ _ _ k; exact ao_p (e_subK rfl rfl ksub) ak rfl k) : AOps P Y ops dr cf Q (x :: r) ⟨v, m, n⟩ q := h _ _ _ _ K
theorem J85 (K : AOps P Y ops dr cf Q r s (q ++ [e])) (h : SO P Y ops dr x v m n s e := by intro _ _ _ _ k; exact ao_p (e_loadRA rfl hrow V.h V.h (takeW (by first | rfl | exact Nat.le_of_ble_eq_true rfl | (simp; done) | (simp; omega) | omega))) ak (p_loadRA V.h V.h (by first | rfl | exact Nat.le_of_ble_eq_true rfl | (simp; done) | (simp; omega) | omega)) k) : AOps P Y ops dr cf Q (x :: r) ⟨v, m, n⟩ q := h _ _ _ _ K
theorem J86 (K : AOps P Y ops dr cf Q r s (q ++ [e])) (h : SO P Y ops dr x v m n s e := by intro _ _ _ _ k; exact ao_a (e_box1 (d := .s (.int _ _)) rfl rfl) ak rfl k) : AOps P Y ops dr cf Q (x :: r) ⟨v, m, n⟩ q := h _ _ _ _ K
theorem J87 (K : AOps P Y ops dr cf Q r s (q ++ [e])) (h : SO P Y ops dr x v m n s e := by intro _ _ _ _ k; exact ao_gpickF rfl rfl rfl rfl (by first | exact fun _ => trivial | exact fun _ => rfl | exact fun hc => hc) (by first | exact fun _ => trivial | exact fun _ => rfl | exact fun hc => hc) k) : AOps P Y ops dr cf Q (x :: r) ⟨v, m, n⟩ q := h _ _ _ _ K
theorem J88 (K : AOps P Y ops dr cf Q r s (q ++ [e])) (h : SO P Y ops dr x v m n s e := by intro _ _ _ _ k; exact ao_p (e_idxRi rfl rfl (up_same _ _ _) V.h V.h) ak ⟨V.h, by omega⟩ k) : AOps P Y ops dr cf Q (x :: r) ⟨v, m, n⟩ q := h _ _ _ _ K
theorem J89 (K : AOps P Y ops dr cf Q r s (q ++ [e])) (h : SO P Y ops dr x v m n s e := by intro _ _ _ _ k; exact ao_p (e_loadR rfl hrow kd V.h) ak (p_loadR V.h V.h kd) k) : AOps P Y ops dr cf Q (x :: r) ⟨v, m, n⟩ q := h _ _ _ _ K
theorem J90 (K : AOps P Y ops dr cf Q r s (q ++ [e])) (h : SO P Y ops dr x v m n s e := by intro _ _ _ _ k; exact ao_w (e_storeA (cs' := encIns _) rfl rfl (up_same _ _ _) rfl) ak (p_store V.h V.h (by first | (simp; done) | exact ⟨rfl, Nat.le_of_ble_eq_true rfl⟩ | (simp; omega)) (by rfl)) k) : AOps P Y ops dr cf Q (x :: r) ⟨v, m, n⟩ q := h _ _ _ _ K
theorem J91 (K : AOps P Y ops dr cf Q r s (q ++ [e])) (h : SO P Y ops dr x v m n s e := by intro _ _ _ _ k; exact ao_p (e_assign (v := .pt _) rfl) ak trivial k) : AOps P Y ops dr cf Q (x :: r) ⟨v, m, n⟩ q := h _ _ _ _ K
theorem J92 (K : AOps P Y ops dr cf Q r s (q ++ [e])) (h : SO P Y ops dr x v m n s e := by intro _ _ _ _ k; exact ao_p (e_gtr rfl rfl) ak rfl k) : AOps P Y ops dr cf Q (x :: r) ⟨v, m, n⟩ q := h _ _ _ _ K
theorem J93 (K : AOps P Y ops dr cf Q r s (q ++ [e])) (h : SO P Y ops dr x v m n s e := by intro _ _ _ _ k; exact ao_g rfl rfl (e_leq rfl rfl) (fun hc => ⟨ak, rfl⟩) k) : AOps P Y ops dr cf Q (x :: r) ⟨v, m, n⟩ q := h _ _ _ _ K
theorem J94 (K : AOps P Y ops dr cf Q r s (q ++ [e])) (h : SO P Y ops dr x v m n s e := by intro _ _ _ _ k; exact ao_g rfl rfl (e_lss rfl rfl) (fun hc => ⟨ak, rfl⟩) k) : AOps P Y ops dr cf Q (x :: r) ⟨v, m, n⟩ q := h _ _ _ _ K
theorem J95 (K : AOps P Y ops dr cf Q r s (q ++ [e])) (h : SO P Y ops dr x v m n s e := by intro _ _ _ _ k; exact ao_p (e_assign (v := .mp _) rfl) ak trivial k) : AOps P Y ops dr cf Q (x :: r) ⟨v, m, n⟩ q := h _ _ _ _ K
theorem J96 (K : AOps P Y ops dr cf Q r s (q ++ [e])) (h : SO P Y ops dr x v m n s e := by intro _ _ _ _ k; exact ao_gpickT rfl rfl rfl rfl (by first | exact fun _ => trivial | exact fun _ => rfl | exact fun hc => hc) (by first | exact fun _ => trivial | exact fun _ => rfl | exact fun hc => hc) k) : AOps P Y ops dr cf Q (x :: r) ⟨v, m, n⟩ q := h _ _ _ _ K
theorem J97 (K : AOps P Y ops dr cf Q r s (q ++ [e])) (h : SO P Y ops dr x v m n s e := by intro _ _ _ _ k; exact ao_p (e_quoK rfl rfl kquo) ak ⟨rfl, by omega⟩ k) : AOps P Y ops dr cf Q (x :: r) ⟨v, m, n⟩ q := h _ _ _ _ K
theorem J98 (K : AOps P Y ops dr cf Q r s (q ++ [e])) (h : SO P Y ops dr x v m n s e := by intro _ _ _ _ k; exact ao_p (e_remK rfl rfl krem) ak ⟨rfl, by omega⟩ k) : AOps P Y ops dr cf Q (x :: r) ⟨v, m, n⟩ q := h _ _ _ _ K
theorem J99 (K : AOps P Y ops dr cf Q r s (q ++ [e])) (h : SO P Y ops dr x v m n s e := by intro _ _ _ _ k; exact ao_p (e_faddrR rfl (up_same _ _ _) V.h) ak (p_pos V.h) k) : AOps P Y ops dr cf Q (x :: r) ⟨v, m, n⟩ q := h _ _ _ _ K
theorem J100 (K : AOps P Y ops dr cf Q r s (q ++ [e])) (h : SO P Y ops dr x v m n s e := by intro _ _ _ _ k; exact ao_p (e_loadRA (vs := encIns _) rfl (up_same _ _ _) V.h V.h rfl) ak (p_loadRA V.h V.h (by first | (simp; done) | omega | exact Nat.le_of_ble_eq_true rfl)) k) : AOps P Y ops dr cf Q (x :: r) ⟨v, m, n⟩ q := h _ _ _ _ K
theorem J101 (K : AOps P Y ops dr cf Q r s (q ++ [e])) (h : SO P Y ops dr x v m n s e := by intro _ _ _ _ k; exact ao_g rfl rfl (e_faddrR rfl (up_same _ _ _) V.h) (fun hc => ⟨ak, (p_pos V.h)⟩) k) : AOps P Y ops dr cf Q (x :: r) ⟨v, m, n⟩ q := h _ _ _ _ K
theorem J102 (K : AOps P Y ops dr cf Q r s (q ++ [e])) (h : SO P Y ops dr x v m n s e := by intro _ _ _ _ k; exact ao_g rfl rfl (e_loadR rfl (up_same _ _ _) rfl V.h) (fun hc => ⟨ak, (p_loadR V.h V.h rfl)⟩) k) : AOps P Y ops dr cf Q (x :: r) ⟨v, m, n⟩ q := h _ _ _ _ K
theorem J103 (K : AOps P Y ops dr cf Q r s (q ++ [e])) (h : SO P Y ops dr x v m n s e := by intro _ _ _ _ k; exact ao_m (e_appR rfl (mskip oG hrow) rfl V.h V.h (cells_rs (up_same _ _ _) rfl) rfl) ak ⟨V.h, rfl, (by first | omega | exact Nat.le_of_ble_eq_true rfl | (simp; done) | (simp; omega)), (by decide), (by first | rfl | (simp; done) | (simp; omega)), (by unfold maxLen; first | omega | (simp; omega)), (by rw [b3]; first | omega | (simp; omega)), (by first | (simp; done) | (simp; omega))⟩ k) : AOps P Y ops dr cf Q (x :: r) ⟨v, m, n⟩ q := h _ _ _ _ K
theorem J104 (K : AOps P Y ops dr cf Q r s (q ++ [e])) (h : SO P Y ops dr x v m n s e := by intro _ _ _ _ k; exact ao_p (e_idxRi rfl rfl hrow2 V.h V.h) ak ⟨V.h, by omega⟩ k) : AOps P Y ops dr cf Q (x :: r) ⟨v, m, n⟩ q := h _ _ _ _ K
theorem J105 (K : AOps P Y ops dr cf Q r s (q ++ [e])) (h : SO P Y ops dr x v m n s e := by intro _ _ _ _ k; exact ao_p (e_extract (v := .s (.pointer none)) rfl rfl) ak (by first | decide | simp) k) : AOps P Y ops dr cf Q (x :: r) ⟨v, m, n⟩ q := h _ _ _ _ K
theorem J106 (K : AOps P Y ops dr cf Q r s (q ++ [e])) (h : SO P Y ops dr x v m n s e := by intro _ _ _ _ k; exact ao_p (e_extract (v := .pt _) rfl rfl) ak (by first | decide | simp) k) : AOps P Y ops dr cf Q (x :: r) ⟨v, m, n⟩ q := h _ _ _ _ K
theorem J107 (K : AOps P Y ops dr cf Q r s (q ++ [e])) (h : SO P Y ops dr x v m n s e := by intro _ _ _ _ k; exact ao_p (e_extract (v := .z) rfl rfl) ak (by first | decide | simp) k) : AOps P Y ops dr cf Q (x :: r) ⟨v, m, n⟩ q := h _ _ _ _ K
theorem J108 (K : AOps P Y ops dr cf Q r s (q ++ [e])) (h : SO P Y ops dr x v m n s e := by intro _ _ _ _ k; exact ao_p (e_idxF rfl rfl V.h V.h (len_enc199) (by assumption)) ak (p_idxF V.h (len_enc199) (by assumption)) k) : AOps P Y ops dr cf Q (x :: r) ⟨v, m, n⟩ q := h _ _ _ _ K
theorem J109 (K : AOps P Y ops dr cf Q r s (q ++ [e])) (h : SO P Y ops dr x v m n s e := by intro _ _ _ _ k; exact ao_p (e_loadA (vs := encWhen _) rfl V.h V.h rfl) ak (p_loadA V.h V.h (by simp)) k) : AOps P Y ops dr cf Q (x :: r) ⟨v, m, n⟩ q := h _ _ _ _ K
theorem J110 (K : AOps P Y ops dr cf Q r s (q ++ [e])) (h : SO P Y ops dr x v m n s e := by intro _ _ _ _ k; exact ao_a e_map ak trivial k) : AOps P Y ops dr cf Q (x :: r) ⟨v, m, n⟩ q := h _ _ _ _ K
theorem J111 (K : AOps P Y ops dr cf Q r s (q ++ [e])) (h : SO P Y ops dr x v m n s e := by intro _ _ _ _ k; exact ao_g rfl rfl (e_leqK rfl rfl kleq) (fun hc => ⟨ak, rfl⟩) k) : AOps P Y ops dr cf Q (x :: r) ⟨v, m, n⟩ q := h _ _ _ _ K
theorem J112 (K : AOps P Y ops dr cf Q r s (q ++ [e])) (h : SO P Y ops dr x v m n s e := by intro _ _ _ _ k; exact ao_g rfl rfl (e_eqlK rfl rfl keql) (fun hc => ⟨ak, rfl⟩) k) : AOps P Y ops dr cf Q (x :: r) ⟨v, m, n⟩ q := h _ _ _ _ K
theorem J113 (K : AOps P Y ops dr cf Q r s (q ++ [e])) (h : SO P Y ops dr x v m n s e := by intro _ _ _ _ k; exact ao_p (e_geqK rfl rfl kgeq) ak rfl k) : AOps P Y ops dr cf Q (x :: r) ⟨v, m, n⟩ q := h _ _ _ _ K
theorem J114 (K : AOps P Y ops dr cf Q r s (q ++ [e])) (h : SO P Y ops dr x v m n s e := by intro _ _ _ _ k; exact ao_g rfl rfl (e_eqlK rfl rfl keql') (fun hc => ⟨ak, rfl⟩) k) : AOps P Y ops dr cf Q (x :: r) ⟨v, m, n⟩ q := h _ _ _ _ K
theorem J115 (K : AOps P Y ops dr cf Q r s (q ++ [e])) (h : SO P Y ops dr x v m n s e := by intro _ _ _ _ k; exact ao_g rfl rfl (e_move (v := .fn _ _ _) rfl) (fun hc => ⟨ak, trivial⟩) k) : AOps P Y ops dr cf Q (x :: r) ⟨v, m, n⟩ q := h _ _ _ _ K
theorem J116 (K : AOps P Y ops dr cf Q r s (q ++ [e])) (h : SO P Y ops dr x v m n s e := by intro _ _ _ _ k; exact ao_a (e_appZ rfl rfl V.h V.h (cells_rs (up_same _ _ _) rfl)) ak ⟨V.h, (by first | omega | exact Nat.le_of_ble_eq_true rfl | (simp; done) | (simp; omega)), (by decide), (by unfold maxLen; first | omega | (simp; omega)), (by rw [b3]; first | omega | (simp; omega))⟩ k) : AOps P Y ops dr cf Q (x :: r) ⟨v, m, n⟩ q := h _ _ _ _ K
theorem J117 (K : AOps P Y ops dr cf Q r s (q ++ [e])) (h : SO P Y ops dr x v m n s e := by intro _ _ _ _ k; exact ao_p (e_gtrK rfl rfl kgtr) ak rfl k) : AOps P Y ops dr cf Q (x :: r) ⟨v, m, n⟩ q := h _ _ _ _ K
theorem J118 (K : AOps P Y ops dr cf Q r s (q ++ [e])) (h : SO P Y ops dr x v m n s e := by intro _ _ _ _ k; exact ao_g rfl rfl (e_move (v := .rs _ _ _) rfl) (fun hc => ⟨ak, trivial⟩) k) : AOps P Y ops dr cf Q (x :: r) ⟨v, m, n⟩ q := h _ _ _ _ K
theorem J119 (K : AOps P Y ops dr cf Q r s (q ++ [e])) (h : SO P Y ops dr x v m n s e := by intro _ _ _ _ k; exact ao_w (e_store1 (d := .s (.int _ _)) (cs' := _) rfl rfl (up_same _ _ _) rfl rfl) ak (p_store V.h V.h (by first | (simp; done) | exact ⟨rfl, Nat.le_of_ble_eq_true rfl⟩ | (simp; omega)) rfl) k) : AOps P Y ops dr cf Q (x :: r) ⟨v, m, n⟩ q := h _ _ _ _ K
theorem J120 (K : AOps P Y ops dr cf Q r s (q ++ [e])) (h : SO P Y ops dr x v m n s e := by intro _ _ _ _ k; exact ao_p (e_lenR rfl hrow) ak V.h k) : AOps P Y ops dr cf Q (x :: r) ⟨v, m, n⟩ q := h _ _ _ _ K
theorem J121 (K : AOps P Y ops dr cf Q r s (q ++ [e])) (h : SO P Y ops dr x v m n s e := by intro _ _ _ _ k; exact ao_p (e_lenR rfl rfl) ak V.h k) : AOps P Y ops dr cf Q (x :: r) ⟨v, m, n⟩ q := h _ _ _ _ K
theorem J122 (K : AOps P Y ops dr cf Q r s (q ++ [e])) (h : SO P Y ops dr x v m n s e := by intro _ _ _ _ k; exact ao_p (e_idxRm rfl rfl rfl V.h V.h) ak ⟨V.h, by omega⟩ k) : AOps P Y ops dr cf Q (x :: r) ⟨v, m, n⟩ q := h _ _ _ _ K
theorem J123 (K : AOps P Y ops dr cf Q r s (q ++ [e])) (h : SO P Y ops dr x v m n s e := by intro _ _ _ _ k; exact ao_w (e_storeA rfl rfl (up_same _ _ _) (spliceW (by first | rfl | exact Nat.le_of_ble_eq_true rfl | (simp; done) | (simp; omega) | omega) (by first | rfl | exact Nat.le_of_ble_eq_true rfl | (simp; done) | (simp; omega) | omega))) ak (p_storeW (by first | rfl | exact Nat.le_of_ble_eq_true rfl | (simp; done) | (simp; omega) | omega) (by first | rfl | exact Nat.le_of_ble_eq_true rfl | (simp; done) | (simp; omega) | omega) (by first | rfl | exact oneW _ | (simp [oneW]; done) | exact oneW_set)) k) : AOps P Y ops dr cf Q (x :: r) ⟨v, m, n⟩ q := h _ _ _ _ K
theorem J124 (K : AOps P Y ops dr cf Q r s (q ++ [e])) (h : SO P Y ops dr x v m n s e := by intro _ _ _ _ k; exact ao_p (e_idxW rfl rfl V.h V.h (by assumption) (by assumption)) ak (p_idxW V.h (by assumption) (by assumption) oG) k) : AOps P Y ops dr cf Q (x :: r) ⟨v, m, n⟩ q := h _ _ _ _ K
theorem J125 (K : AOps P Y ops dr cf Q r s (q ++ [e])) (h : SO P Y ops dr x v m n s e := by intro _ _ _ _ k; exact ao_p (e_loadA rfl V.h V.h (take_app (by assumption))) ak (p_loadA V.h V.h (by simp; omega)) k) : AOps P Y ops dr cf Q (x :: r) ⟨v, m, n⟩ q := h _ _ _ _ K
theorem J126 (K : AOps P Y ops dr cf Q r s (q ++ [e])) (h : SO P Y ops dr x v m n s e := by intro _ _ _ _ k; exact ao_w (e_storeA rfl rfl rfl (spliceS (by first | rfl | exact Nat.le_of_ble_eq_true rfl | (simp; done) | (simp; omega) | omega) (by first | rfl | exact Nat.le_of_ble_eq_true rfl | (simp; done) | (simp; omega) | omega))) ak (p_storeS (by first | rfl | exact Nat.le_of_ble_eq_true rfl | (simp; done) | (simp; omega) | omega) (by first | rfl | exact Nat.le_of_ble_eq_true rfl | (simp; done) | (simp; omega) | omega) (by first | rfl | exact oneW _ | (simp [oneW]; done) | exact oneW_set)) k) : AOps P Y ops dr cf Q (x :: r) ⟨v, m, n⟩ q := h _ _ _ _ K
theorem J127 (K : AOps P Y ops dr cf Q r s (q ++ [e])) (h : SO P Y ops dr x v m n s e := by intro _ _ _ _ k; exact ao_p (e_loadR rfl hrow2 kd V.h) ak (p_loadR V.h V.h kd) k) : AOps P Y ops dr cf Q (x :: r) ⟨v, m, n⟩ q := h _ _ _ _ K
theorem J128 (K : AOps P Y ops dr cf Q r s (q ++ [e])) (h : SO P Y ops dr x v m n s e := by intro _ _ _ _ k; exact ao_p (e_nilR rfl hrow2) ak trivial k) : AOps P Y ops dr cf Q (x :: r) ⟨v, m, n⟩ q := h _ _ _ _ K
theorem J129 (K : AOps P Y ops dr cf Q r s (q ++ [e])) (h : SO P Y ops dr x v m n s e := by intro _ _ _ _ k; exact ao_p (e_faddrR rfl hrow2 V.h) ak (p_pos V.h) k) : AOps P Y ops dr cf Q (x :: r) ⟨v, m, n⟩ q := h _ _ _ _ K
theorem J130 (K : AOps P Y ops dr cf Q r s (q ++ [e])) (h : SO P Y ops dr x v m n s e := by intro _ _ _ _ k; exact ao_p (e_loadR rfl hrow2 rfl V.h) ak (p_loadR V.h V.h rfl) k) : AOps P Y ops dr cf Q (x :: r) ⟨v, m, n⟩ q := h _ _ _ _ K
theorem J131 (K : AOps P Y ops dr cf Q r s (q ++ [e])) (h : SO P Y ops dr x v m n s e := by intro _ _ _ _ k; exact ao_w (e_storeA rfl rfl hrow (spliceS (by first | rfl | exact Nat.le_of_ble_eq_true rfl | (simp; done) | (simp; omega) | omega) (by first | rfl | exact Nat.le_of_ble_eq_true rfl | (simp; done) | (simp; omega) | omega))) ak (p_storeS (by first | rfl | exact Nat.le_of_ble_eq_true rfl | (simp; done) | (simp; omega) | omega) (by first | rfl | exact Nat.le_of_ble_eq_true rfl | (simp; done) | (simp; omega) | omega) (by first | rfl | exact oneW _ | (simp [oneW]; done) | exact oneW_set)) k) : AOps P Y ops dr cf Q (x :: r) ⟨v, m, n⟩ q := h _ _ _ _ K
theorem J132 (K : AOps P Y ops dr cf Q r s (q ++ [e])) (h : SO P Y ops dr x v m n s e := by intro _ _ _ _ k; exact ao_g rfl rfl (e_geq rfl rfl) (fun hc => ⟨ak, rfl⟩) k) : AOps P Y ops dr cf Q (x :: r) ⟨v, m, n⟩ q := h _ _ _ _ K
theorem J133 (K : AOps P Y ops dr cf Q r s (q ++ [e])) (h : SO P Y ops dr x v m n s e := by intro _ _ _ _ k; exact ao_w (e_store1 (d := .rs _ _ _) (cs' := _) rfl rfl rfl rfl rfl) ak (p_store V.h V.h (by first | (simp; done) | exact ⟨rfl, Nat.le_of_ble_eq_true rfl⟩ | (simp; omega)) rfl) k) : AOps P Y ops dr cf Q (x :: r) ⟨v, m, n⟩ q := h _ _ _ _ K
theorem J134 (K : AOps P Y ops dr cf Q r s (q ++ [e])) (h : SO P Y ops dr x v m n s e := by intro _ _ _ _ k; exact ao_p (e_move (v := .s (.string _)) rfl) ak trivial k) : AOps P Y ops dr cf Q (x :: r) ⟨v, m, n⟩ q := h _ _ _ _ K
theorem J135 (K : AOps P Y ops dr cf Q r s (q ++ [e])) (h : SO P Y ops dr x v m n s e := by intro _ _ _ _ k; exact ao_p (e_lenS rfl) ak V.h k) : AOps P Y ops dr cf Q (x :: r) ⟨v, m, n⟩ q := h _ _ _ _ K
theorem J136 (K : AOps P Y ops dr cf Q r s (q ++ [e])) (h : SO P Y ops dr x v m n s e := by intro _ _ _ _ k; exact ao_w (e_storeA (cs' := encWhen _) rfl rfl (up_same _ _ _) rfl) ak (p_store V.h V.h (by first | (simp; done) | exact ⟨rfl, Nat.le_of_ble_eq_true rfl⟩ | (simp; omega)) (by rfl)) k) : AOps P Y ops dr cf Q (x :: r) ⟨v, m, n⟩ q := h _ _ _ _ K
theorem J137 (K : AOps P Y ops dr cf Q r s (q ++ [e])) (h : SO P Y ops dr x v m n s e := by intro _ _ _ _ k; exact ao_gta rfl rfl (e_buildSl (cs := [_]) V.h V.h V.h rfl rfl) ak ⟨rfl, by decide, V.h, by decide⟩ k) : AOps P Y ops dr cf Q (x :: r) ⟨v, m, n⟩ q := h _ _ _ _ K
theorem J138 (K : AOps P Y ops dr cf Q r s (q ++ [e])) (h : SO P Y ops dr x v m n s e := by intro _ _ _ _ k; exact ao_p (e_and rfl rfl) ak rfl k) : AOps P Y ops dr cf Q (x :: r) ⟨v, m, n⟩ q := h _ _ _ _ K
theorem J139 (K : AOps P Y ops dr cf Q r s (q ++ [e])) (h : SO P Y ops dr x v m n s e := by intro _ _ _ _ k; exact ao_p (e_shl rfl rfl) ak oG k) : AOps P Y ops dr cf Q (x :: r) ⟨v, m, n⟩ q := h _ _ _ _ K
theorem J140 (K : AOps P Y ops dr cf Q r s (q ++ [e])) (h : SO P Y ops dr x v m n s e := by intro _ _ _ _ k; exact ao_p (e_or rfl rfl) ak rfl k) : AOps P Y ops dr cf Q (x :: r) ⟨v, m, n⟩ q := h _ _ _ _ K
theorem J141 (K : AOps P Y ops dr cf Q r s (q ++ [e])) (h : SO P Y ops dr x v m n s e := by intro _ _ _ _ k; exact ao_p (e_assign (v := .fn _ _ _) rfl) ak trivial k) : AOps P Y ops dr cf Q (x :: r) ⟨v, m, n⟩ q := h _ _ _ _ K
theorem J142 (K : AOps P Y ops dr cf Q r s (q ++ [e])) (h : SO P Y ops dr x v m n s e := by intro _ _ _ _ k; exact ao_p (e_loadR rfl (up_same _ _ _) rfl V.h) ak (p_loadR V.h V.h rfl) k) : AOps P Y ops dr cf Q (x :: r) ⟨v, m, n⟩ q := h _ _ _ _ K
theorem J143 (K : AOps P Y ops dr cf Q r s (q ++ [e])) (h : SO P Y ops dr x v m n s e := by intro _ _ _ _ k; exact ao_m (e_appR rfl (mskip oG hrow2) rfl V.h V.h (cells_rs (up_same _ _ _) rfl) rfl) ak ⟨V.h, rfl, (by first | omega | exact Nat.le_of_ble_eq_true rfl | (simp; done) | (simp; omega)), (by decide), (by first | rfl | (simp; done) | (simp; omega)), (by unfold maxLen; first | omega | (simp; omega)), (by rw [b3]; first | omega | (simp; omega)), (by first | (simp; done) | (simp; omega))⟩ k) : AOps P Y ops dr cf Q (x :: r) ⟨v, m, n⟩ q := h _ _ _ _ K
theorem J144 (K : AOps P Y ops dr cf Q r s (q ++ [e])) (h : SO P Y ops dr x v m n s e := by intro _ _ _ _ k; exact ao_p (e_loadR rfl (up_same _ _ _) kd V.h) ak (p_loadR V.h V.h kd) k) : AOps P Y ops dr cf Q (x :: r) ⟨v, m, n⟩ q := h _ _ _ _ K
theorem J145 (K : AOps P Y ops dr cf Q r s (q ++ [e])) (h : SO P Y ops dr x v m n s e := by intro _ _ _ _ k; exact ao_p (e_idxRo rfl rfl (up_same _ _ _) V.h V.h) ak ⟨V.h, by omega⟩ k) : AOps P Y ops dr cf Q (x :: r) ⟨v, m, n⟩ q := h _ _ _ _ K
theorem J146 (K : AOps P Y ops dr cf Q r s (q ++ [e])) (h : SO P Y ops dr x v m n s e := by intro _ _ _ _ k; exact ao_p (e_loadRA (vs := encEnd _) rfl rfl V.h V.h rfl) ak (p_loadRA V.h V.h (by first | (simp; done) | omega | exact Nat.le_of_ble_eq_true rfl)) k) : AOps P Y ops dr cf Q (x :: r) ⟨v, m, n⟩ q := h _ _ _ _ K
theorem J147 (K : AOps P Y ops dr cf Q r s (q ++ [e])) (h : SO P Y ops dr x v m n s e := by intro _ _ _ _ k; exact ao_g rfl rfl (e_loadRA rfl (mskip oG rfl) V.h V.h (takeW (by first | rfl | exact Nat.le_of_ble_eq_true rfl | (simp; done) | (simp; omega) | omega))) (fun hc => ⟨ak, (p_loadRA V.h V.h (by first | rfl | exact Nat.le_of_ble_eq_true rfl | (simp; done) | (simp; omega) | omega))⟩) k) : AOps P Y ops dr cf Q (x :: r) ⟨v, m, n⟩ q := h _ _ _ _ K
theorem J148 (K : AOps P Y ops dr cf Q r s (q ++ [e])) (h : SO P Y ops dr x v m n s e := by intro _ _ _ _ k; exact ao_p (e_loadRA rfl (mskip oG rfl) V.h V.h (takeW (by first | rfl | exact Nat.le_of_ble_eq_true rfl | (simp; done) | (simp; omega) | omega))) ak (p_loadRA V.h V.h (by first | rfl | exact Nat.le_of_ble_eq_true rfl | (simp; done) | (simp; omega) | omega)) k) : AOps P Y ops dr cf Q (x :: r) ⟨v, m, n⟩ q := h _ _ _ _ K
theorem J149 (K : AOps P Y ops dr cf Q r s (q ++ [e])) (h : SO P Y ops dr x v m n s e := by intro _ _ _ _ k; exact ao_w (e_storeA rfl rfl (mskip oG rfl) (spliceW (by first | rfl | exact Nat.le_of_ble_eq_true rfl | (simp; done) | (simp; omega) | omega) (by first | rfl | exact Nat.le_of_ble_eq_true rfl | (simp; done) | (simp; omega) | omega))) ak (p_storeW (by first | rfl | exact Nat.le_of_ble_eq_true rfl | (simp; done) | (simp; omega) | omega) (by first | rfl | exact Nat.le_of_ble_eq_true rfl | (simp; done) | (simp; omega) | omega) (by first | rfl | exact oneW _ | (simp [oneW]; done) | exact oneW_set)) k) : AOps P Y ops dr cf Q (x :: r) ⟨v, m, n⟩ q := h _ _ _ _ K
theorem J150 (K : AOps P Y ops dr cf Q r s (q ++ [e])) (h : SO P Y ops dr x v m n s e := by intro _ _ _ _ k; exact ao_g rfl rfl (e_neqK rfl rfl kneq) (fun hc => ⟨ak, rfl⟩) k) : AOps P Y ops dr cf Q (x :: r) ⟨v, m, n⟩ q := h _ _ _ _ K
theorem J151 (K : AOps P Y ops dr cf Q r s (q ++ [e])) (h : SO P Y ops dr x v m n s e := by intro _ _ _ _ k; exact ao_a (e_makeSl rfl rfl V.h V.h) ak ⟨by omega, rfl, by omega, by rw [b4]; omega, V.h⟩ k) : AOps P Y ops dr cf Q (x :: r) ⟨v, m, n⟩ q := h _ _ _ _ K
theorem J152 (K : AOps P Y ops dr cf Q r s (q ++ [e])) (h : SO P Y ops dr x v m n s e := by intro _ _ _ _ k; exact ao_w (e_storeA rfl rfl rfl (st_ws (by decide) (by assumption) (by assumption) (by first | assumption | (simp; omega) | (simp; done)))) ak (p_storeW (by first | (simp; omega) | (simp; done)) (ln_ws (by assumption) (by assumption)) (oneW _)) k) : AOps P Y ops dr cf Q (x :: r) ⟨v, m, n⟩ q := h _ _ _ _ K
theorem J153 (K : AOps P Y ops dr cf Q r s (q ++ [e])) (h : SO P Y ops dr x v m n s e := by intro _ _ _ _ k; exact ao_p (e_extract (v := .agg _) rfl rfl) ak (by first | decide | simp) k) : AOps P Y ops dr cf Q (x :: r) ⟨v, m, n⟩ q := h _ _ _ _ K
theorem J154 (K : AOps P Y ops dr cf Q r s (q ++ [e])) (h : SO P Y ops dr x v m n s e := by intro _ _ _ _ k; exact ao_a (e_makeSl rfl rfl V.h V.h) ak ⟨by omega, rfl, by omega, by rw [b27]; omega, V.h⟩ k) : AOps P Y ops dr cf Q (x :: r) ⟨v, m, n⟩ q := h _ _ _ _ K
theorem J155 (K : AOps P Y ops dr cf Q r s (q ++ [e])) (h : SO P Y ops dr x v m n s e := by intro _ _ _ _ k; exact ao_p (e_nilR rfl hrow) ak trivial k) : AOps P Y ops dr cf Q (x :: r) ⟨v, m, n⟩ q := h _ _ _ _ K
theorem J156 (K : AOps P Y ops dr cf Q r s (q ++ [e])) (h : SO P Y ops dr x v m n s e := by intro _ _ _ _ k; exact ao_p (e_faddrR rfl hrow V.h) ak (p_pos V.h) k) : AOps P Y ops dr cf Q (x :: r) ⟨v, m, n⟩ q := h _ _ _ _ K
theorem J157 (K : AOps P Y ops dr cf Q r s (q ++ [e])) (h : SO P Y ops dr x v m n s e := by intro _ _ _ _ k; exact ao_g rfl rfl (e_sub rfl rfl oG) (fun hc => ⟨ak, rfl⟩) k) : AOps P Y ops dr cf Q (x :: r) ⟨v, m, n⟩ q := h _ _ _ _ K
variable {rf : Bool} {W : Exit -> St -> Prop} {o : Array Oper} {B : Code} {i : Nat} {k : St}
theorem ws [YMono Y] (h : AOps P Y o false [] (endQ fun k => AW P Y rf B W k) o.toList k []) : AW P Y rf (.seq (.region i o false) B) W k := w_seq_region h
theorem er [YMono Y] (h : AOps P Y o false [] (endQ fun k => AW P Y rf B W k) o.toList k []) : AOps P Y ops dr [] (endQ fun k => AW P Y rf (.seq (.region i o false) B) W k) [] k q := ao_end (w_seq_region h)
end
end Go.Abs
theorem eH {p : Prop} (h : p:=by repeat' (first | exact trivial | exact rfl | refine And.intro ?_ ?_)) : p:=h
end
section
namespace Go.Proofs.Tryz.K
open Go.Abs
instance v_c1 : V (prog.cellsOf 1) (1) := ⟨c1⟩
instance v_a1 : V (aggP prog 1) (false) := ⟨a1⟩
instance v_t1 : V (tyOk prog 1) (true) := ⟨t1⟩
instance v_b1 : V (prog.bytesOf 1) (8) := ⟨b1⟩
instance v_c2 : V (prog.cellsOf 2) (1) := ⟨c2⟩
instance v_b2 : V (prog.bytesOf 2) (8) := ⟨b2⟩
instance v_a2 : V (aggP prog 2) (false) := ⟨a2⟩
instance v_t2 : V (tyOk prog 2) (true) := ⟨t2⟩
instance v_c3 : V (prog.cellsOf 3) (1) := ⟨c3⟩
instance v_b3 : V (prog.bytesOf 3) (8) := ⟨b3⟩
instance v_a3 : V (aggP prog 3) (false) := ⟨a3⟩
instance v_t3 : V (tyOk prog 3) (true) := ⟨t3⟩
instance v_z3 : V (zeroP prog 3) ([.s (.int .i64 0)]) := ⟨z3⟩
instance v_c4 : V (prog.cellsOf 4) (1) := ⟨c4⟩
instance v_b4 : V (prog.bytesOf 4) (1) := ⟨b4⟩
instance v_a4 : V (aggP prog 4) (false) := ⟨a4⟩
instance v_t4 : V (tyOk prog 4) (true) := ⟨t4⟩
instance v_z4 : V (zeroP prog 4) ([.s (.bool false)]) := ⟨z4⟩
instance v_bo4 : V (boT prog 4) (true) := ⟨bo4⟩
instance v_c5 : V (prog.cellsOf 5) (1) := ⟨c5⟩
instance v_b5 : V (prog.bytesOf 5) (1) := ⟨b5⟩
instance v_a5 : V (aggP prog 5) (false) := ⟨a5⟩
instance v_t5 : V (tyOk prog 5) (true) := ⟨t5⟩
instance v_z5 : V (zeroP prog 5) ([.s (.int .u8 0)]) := ⟨z5⟩
instance v_b6 : V (prog.bytesOf 6) (1) := ⟨b6⟩
instance v_a6 : V (aggP prog 6) (false) := ⟨a6⟩
instance v_c9 : V (prog.cellsOf 9) (1) := ⟨c9⟩
instance v_a9 : V (aggP prog 9) (false) := ⟨a9⟩
instance v_t9 : V (tyOk prog 9) (true) := ⟨t9⟩
instance v_st9 : V (stT prog 9) (true) := ⟨st9⟩
instance v_e15 : V (elemP prog 15) (275) := ⟨e15⟩
instance v_e16 : V (elemP prog 16) (278) := ⟨e16⟩
instance v_e17 : V (elemP prog 17) (287) := ⟨e17⟩
instance v_c22 : V (prog.cellsOf 22) (1) := ⟨c22⟩
instance v_a22 : V (aggP prog 22) (false) := ⟨a22⟩
instance v_t22 : V (tyOk prog 22) (true) := ⟨t22⟩
instance v_e22 : V (elemP prog 22) (5) := ⟨e22⟩
instance v_sl22 : V (slT prog 22) (true) := ⟨sl22⟩
instance v_c23 : V (prog.cellsOf 23) (1) := ⟨c23⟩
instance v_a23 : V (aggP prog 23) (false) := ⟨a23⟩
instance v_t23 : V (tyOk prog 23) (true) := ⟨t23⟩
instance v_e23 : V (elemP prog 23) (9) := ⟨e23⟩
instance v_sl23 : V (slT prog 23) (true) := ⟨sl23⟩
instance v_c24 : V (prog.cellsOf 24) (1) := ⟨c24⟩
instance v_a24 : V (aggP prog 24) (false) := ⟨a24⟩
instance v_t24 : V (tyOk prog 24) (true) := ⟨t24⟩
instance v_e24 : V (elemP prog 24) (72) := ⟨e24⟩
instance v_sl24 : V (slT prog 24) (true) := ⟨sl24⟩
instance v_c26 : V (prog.cellsOf 26) (8) := ⟨c26⟩
instance v_a26 : V (aggP prog 26) (true) := ⟨a26⟩
instance v_t26 : V (tyOk prog 26) (true) := ⟨t26⟩
instance v_z26 : V (zeroP prog 26) ([.s (.string "".toUTF8),.s (.bool false),.s (.int .i64 0),.s (.int .u8 0),.z,.z,.z,.z]) := ⟨z26⟩
instance v_f26_0 : V (fieldP prog 26 0) (some (0, 9)) := ⟨f26_0⟩
instance v_f26_1 : V (fieldP prog 26 1) (some (1, 4)) := ⟨f26_1⟩
instance v_f26_2 : V (fieldP prog 26 2) (some (2, 3)) := ⟨f26_2⟩
instance v_f26_3 : V (fieldP prog 26 3) (some (3, 5)) := ⟨f26_3⟩
instance v_f26_4 : V (fieldP prog 26 4) (some (4, 22)) := ⟨f26_4⟩
instance v_f26_5 : V (fieldP prog 26 5) (some (5, 22)) := ⟨f26_5⟩
instance v_f26_6 : V (fieldP prog 26 6) (some (6, 23)) := ⟨f26_6⟩
instance v_f26_7 : V (fieldP prog 26 7) (some (7, 24)) := ⟨f26_7⟩
instance v_c27 : V (prog.cellsOf 27) (1) := ⟨c27⟩
instance v_b27 : V (prog.bytesOf 27) (24) := ⟨b27⟩
instance v_a27 : V (aggP prog 27) (false) := ⟨a27⟩
instance v_t27 : V (tyOk prog 27) (true) := ⟨t27⟩
instance v_z27 : V (zeroP prog 27) ([.z]) := ⟨z27⟩
instance v_e27 : V (elemP prog 27) (3) := ⟨e27⟩
instance v_sl27 : V (slT prog 27) (true) := ⟨sl27⟩
instance v_c28 : V (prog.cellsOf 28) (1) := ⟨c28⟩
instance v_a28 : V (aggP prog 28) (false) := ⟨a28⟩
instance v_t28 : V (tyOk prog 28) (true) := ⟨t28⟩
instance v_e28 : V (elemP prog 28) (27) := ⟨e28⟩
instance v_sl28 : V (slT prog 28) (true) := ⟨sl28⟩
instance v_c52 : V (prog.cellsOf 52) (1) := ⟨c52⟩
instance v_a52 : V (aggP prog 52) (false) := ⟨a52⟩
instance v_t52 : V (tyOk prog 52) (true) := ⟨t52⟩
instance v_z52 : V (zeroP prog 52) ([.z]) := ⟨z52⟩
instance v_e52 : V (elemP prog 52) (4) := ⟨e52⟩
instance v_sl52 : V (slT prog 52) (true) := ⟨sl52⟩
instance v_c66 : V (prog.cellsOf 66) (6) := ⟨c66⟩
instance v_a66 : V (aggP prog 66) (true) := ⟨a66⟩
instance v_t66 : V (tyOk prog 66) (true) := ⟨t66⟩
instance v_z66 : V (zeroP prog 66) ([.s (.int .u8 0),.s (.int .i64 0),.s (.int .i64 0),.s (.int .i64 0),.s (.int .i64 0),.z]) := ⟨z66⟩
instance v_f66_0 : V (fieldP prog 66 0) (some (0, 5)) := ⟨f66_0⟩
instance v_f66_1 : V (fieldP prog 66 1) (some (1, 3)) := ⟨f66_1⟩
instance v_f66_2 : V (fieldP prog 66 2) (some (2, 3)) := ⟨f66_2⟩
instance v_f66_3 : V (fieldP prog 66 3) (some (3, 3)) := ⟨f66_3⟩
instance v_f66_4 : V (fieldP prog 66 4) (some (4, 3)) := ⟨f66_4⟩
instance v_f66_5 : V (fieldP prog 66 5) (some (5, 27)) := ⟨f66_5⟩
instance v_c67 : V (prog.cellsOf 67) (1) := ⟨c67⟩
instance v_a67 : V (aggP prog 67) (false) := ⟨a67⟩
instance v_t67 : V (tyOk prog 67) (true) := ⟨t67⟩
instance v_e67 : V (elemP prog 67) (199) := ⟨e67⟩
instance v_sl67 : V (slT prog 67) (true) := ⟨sl67⟩
instance v_c69 : V (prog.cellsOf 69) (15) := ⟨c69⟩
instance v_a69 : V (aggP prog 69) (true) := ⟨a69⟩
instance v_t69 : V (tyOk prog 69) (true) := ⟨t69⟩
instance v_z69 : V (zeroP prog 69) ([.s (.int .u8 0),.s (.int .i64 0),.s (.int .i64 0),.s (.int .i64 0),.s (.int .i64 0),.s (.string "".toUTF8),.s (.int .u8 0),.s (.int .i64 0),.s (.int .i64 0),.s (.int .i64 0),.s (.int .i64 0),.z,.z,.z,.s (.int .i64 0)]) := ⟨z69⟩
instance v_f69_0 : V (fieldP prog 69 0) (some (0, 5)) := ⟨f69_0⟩
instance v_f69_1 : V (fieldP prog 69 1) (some (1, 3)) := ⟨f69_1⟩
instance v_f69_2 : V (fieldP prog 69 2) (some (2, 3)) := ⟨f69_2⟩
instance v_f69_3 : V (fieldP prog 69 3) (some (3, 3)) := ⟨f69_3⟩
instance v_f69_4 : V (fieldP prog 69 4) (some (4, 3)) := ⟨f69_4⟩
instance v_f69_5 : V (fieldP prog 69 5) (some (5, 9)) := ⟨f69_5⟩
instance v_f69_6 : V (fieldP prog 69 6) (some (6, 66)) := ⟨f69_6⟩
instance v_f69_7 : V (fieldP prog 69 7) (some (12, 27)) := ⟨f69_7⟩
instance v_f69_8 : V (fieldP prog 69 8) (some (13, 67)) := ⟨f69_8⟩
instance v_f69_9 : V (fieldP prog 69 9) (some (14, 3)) := ⟨f69_9⟩
instance v_c70 : V (prog.cellsOf 70) (1) := ⟨c70⟩
instance v_a70 : V (aggP prog 70) (false) := ⟨a70⟩
instance v_t70 : V (tyOk prog 70) (true) := ⟨t70⟩
instance v_e70 : V (elemP prog 70) (66) := ⟨e70⟩
instance v_sl70 : V (slT prog 70) (true) := ⟨sl70⟩
instance v_c72 : V (prog.cellsOf 72) (16) := ⟨c72⟩
instance v_b72 : V (prog.bytesOf 72) (200) := ⟨b72⟩
instance v_a72 : V (aggP prog 72) (true) := ⟨a72⟩
instance v_t72 : V (tyOk prog 72) (true) := ⟨t72⟩
instance v_z72 : V (zeroP prog 72) ([.z,.s (.int .u8 0),.s (.int .i64 0),.s (.int .i64 0),.s (.int .i64 0),.s (.int .i64 0),.s (.string "".toUTF8),.s (.int .u8 0),.s (.int .i64 0),.s (.int .i64 0),.s (.int .i64 0),.s (.int .i64 0),.z,.z,.z,.s (.int .i64 0)]) := ⟨z72⟩
instance v_f72_0 : V (fieldP prog 72 0) (some (0, 70)) := ⟨f72_0⟩
instance v_f72_1 : V (fieldP prog 72 1) (some (1, 69)) := ⟨f72_1⟩
instance v_c79 : V (prog.cellsOf 79) (1) := ⟨c79⟩
instance v_a79 : V (aggP prog 79) (false) := ⟨a79⟩
instance v_t79 : V (tyOk prog 79) (true) := ⟨t79⟩
instance v_t89 : V (tyOk prog 89) (true) := ⟨t89⟩
instance v_z89 : V (zeroP prog 89) ([.s (.string "".toUTF8),.s (.bool false),.s (.int .i64 0),.s (.int .u8 0),.z,.z,.z,.z,.z,.z,.z]) := ⟨z89⟩
instance v_f89_0 : V (fieldP prog 89 0) (some (0, 26)) := ⟨f89_0⟩
instance v_f89_1 : V (fieldP prog 89 1) (some (8, 28)) := ⟨f89_1⟩
instance v_f89_2 : V (fieldP prog 89 2) (some (9, 28)) := ⟨f89_2⟩
instance v_f89_3 : V (fieldP prog 89 3) (some (10, 52)) := ⟨f89_3⟩
instance v_c98 : V (prog.cellsOf 98) (1) := ⟨c98⟩
instance v_a98 : V (aggP prog 98) (false) := ⟨a98⟩
instance v_t98 : V (tyOk prog 98) (true) := ⟨t98⟩
instance v_c100 : V (prog.cellsOf 100) (19) := ⟨c100⟩
instance v_t100 : V (tyOk prog 100) (true) := ⟨t100⟩
instance v_c128 : V (prog.cellsOf 128) (1) := ⟨c128⟩
instance v_a128 : V (aggP prog 128) (false) := ⟨a128⟩
instance v_t128 : V (tyOk prog 128) (true) := ⟨t128⟩
instance v_z128 : V (zeroP prog 128) ([.s .nilFunc]) := ⟨z128⟩
instance v_c131 : V (prog.cellsOf 131) (1) := ⟨c131⟩
instance v_a131 : V (aggP prog 131) (false) := ⟨a131⟩
instance v_t131 : V (tyOk prog 131) (true) := ⟨t131⟩
instance v_c133 : V (prog.cellsOf 133) (10) := ⟨c133⟩
instance v_a133 : V (aggP prog 133) (true) := ⟨a133⟩
instance v_t133 : V (tyOk prog 133) (true) := ⟨t133⟩
instance v_z133 : V (zeroP prog 133) ([.s (.string "".toUTF8),.s (.bool false),.s (.int .i64 0),.s (.int .u8 0),.z,.z,.z,.z,.s (.map none),.s (.map none)]) := ⟨z133⟩
instance v_f133_0 : V (fieldP prog 133 0) (some (0, 26)) := ⟨f133_0⟩
instance v_f133_1 : V (fieldP prog 133 1) (some (8, 131)) := ⟨f133_1⟩
instance v_f133_2 : V (fieldP prog 133 2) (some (9, 131)) := ⟨f133_2⟩
instance v_c199 : V (prog.cellsOf 199) (2) := ⟨c199⟩
instance v_a199 : V (aggP prog 199) (true) := ⟨a199⟩
instance v_t199 : V (tyOk prog 199) (true) := ⟨t199⟩
instance v_z199 : V (zeroP prog 199) ([.s (.string "".toUTF8),.s (.int .i64 0)]) := ⟨z199⟩
instance v_f199_0 : V (fieldP prog 199 0) (some (0, 9)) := ⟨f199_0⟩
instance v_f199_1 : V (fieldP prog 199 1) (some (1, 3)) := ⟨f199_1⟩
instance v_c205 : V (prog.cellsOf 205) (6) := ⟨c205⟩
instance v_a205 : V (aggP prog 205) (true) := ⟨a205⟩
instance v_t205 : V (tyOk prog 205) (true) := ⟨t205⟩
instance v_z205 : V (zeroP prog 205) ([.s (.int .i64 0),.s (.int .i64 0),.s (.int .i64 0),.s (.int .i64 0),.s (.int .i64 0),.s (.int .i64 0)]) := ⟨z205⟩
instance v_f205_0 : V (fieldP prog 205 0) (some (0, 3)) := ⟨f205_0⟩
instance v_f205_1 : V (fieldP prog 205 1) (some (1, 3)) := ⟨f205_1⟩
instance v_f205_2 : V (fieldP prog 205 2) (some (2, 3)) := ⟨f205_2⟩
instance v_f205_3 : V (fieldP prog 205 3) (some (3, 3)) := ⟨f205_3⟩
instance v_f205_4 : V (fieldP prog 205 4) (some (4, 3)) := ⟨f205_4⟩
instance v_f205_5 : V (fieldP prog 205 5) (some (5, 3)) := ⟨f205_5⟩
instance v_e227 : V (elemP prog 227) (231) := ⟨e227⟩
instance v_sl227 : V (slT prog 227) (true) := ⟨sl227⟩
instance v_c231 : V (prog.cellsOf 231) (20) := ⟨c231⟩
instance v_b231 : V (prog.bytesOf 231) (160) := ⟨b231⟩
instance v_a231 : V (aggP prog 231) (true) := ⟨a231⟩
instance v_t231 : V (tyOk prog 231) (true) := ⟨t231⟩
instance v_z231 : V (zeroP prog 231) ([.s (.int .u64 0),.s (.int .u64 0),.s (.int .u64 0),.s (.int .u64 0),.s (.int .u64 0),.s (.int .u64 0),.s (.int .u64 0),.s (.int .u64 0),.s (.int .u64 0),.s (.int .u64 0),.s (.int .u64 0),.s (.int .u64 0),.s (.int .u64 0),.s (.int .u64 0),.s (.int .u64 0),.s (.int .u64 0),.s (.int .u64 0),.s (.int .u64 0),.s (.int .u64 0),.s (.int .u64 0)]) := ⟨z231⟩
instance v_e231 : V (elemP prog 231) (98) := ⟨e231⟩
instance v_ar231 : V (arT prog 231) (true) := ⟨ar231⟩
instance v_l231 : V (lenP prog 231) (20) := ⟨l231⟩
instance v_u8 : V (prog.underlying 8) (some (.struct (fldsOf prog 8))) := ⟨u8⟩
instance v_u22 : V (prog.underlying 22) (some (.slice 5)) := ⟨u22⟩
instance v_u66 : V (prog.underlying 66) (some (.struct (fldsOf prog 66))) := ⟨u66⟩
instance v_pl66 : V (((fldsOf prog 66).toList.map fun f => (f.offset, prog.cellsOf f.type))) ([(0, 1), (1, 1), (2, 1), (3, 1), (4, 1), (5, 1)]) := ⟨pl66⟩
instance v_ub66 : V (((fldsOf prog 66).toList.all fun f => (prog.info? f.type).isSome)) (true) := ⟨ub66⟩
instance v_u69 : V (prog.underlying 69) (some (.struct (fldsOf prog 69))) := ⟨u69⟩
instance v_pl69 : V (((fldsOf prog 69).toList.map fun f => (f.offset, prog.cellsOf f.type))) ([(0, 1), (1, 1), (2, 1), (3, 1), (4, 1), (5, 1), (6, 6), (12, 1), (13, 1), (14, 1)]) := ⟨pl69⟩
instance v_ub69 : V (((fldsOf prog 69).toList.all fun f => (prog.info? f.type).isSome)) (true) := ⟨ub69⟩
instance v_u89 : V (prog.underlying 89) (some (.struct (fldsOf prog 89))) := ⟨u89⟩
instance v_pl89 : V (((fldsOf prog 89).toList.map fun f => (f.offset, prog.cellsOf f.type))) ([(0, 8), (8, 1), (9, 1), (10, 1)]) := ⟨pl89⟩
instance v_ub89 : V (((fldsOf prog 89).toList.all fun f => (prog.info? f.type).isSome)) (true) := ⟨ub89⟩
instance v_mk127 : V (mkeyP prog 127) (3) := ⟨mk127⟩
instance v_mt127 : V (mapT prog 127) (true) := ⟨mt127⟩
instance v_mk131 : V (mkeyP prog 131) (5) := ⟨mk131⟩
instance v_mt131 : V (mapT prog 131) (true) := ⟨mt131⟩
instance v_ml131 : V (melP prog 131) (205) := ⟨ml131⟩
instance v_u133 : V (prog.underlying 133) (some (.struct (fldsOf prog 133))) := ⟨u133⟩
instance v_pl133 : V (((fldsOf prog 133).toList.map fun f => (f.offset, prog.cellsOf f.type))) ([(0, 8), (8, 1), (9, 1)]) := ⟨pl133⟩
instance v_ub133 : V (((fldsOf prog 133).toList.all fun f => (prog.info? f.type).isSome)) (true) := ⟨ub133⟩
instance v_u205 : V (prog.underlying 205) (some (.struct (fldsOf prog 205))) := ⟨u205⟩
instance v_pl205 : V (((fldsOf prog 205).toList.map fun f => (f.offset, prog.cellsOf f.type))) ([(0, 1), (1, 1), (2, 1), (3, 1), (4, 1), (5, 1)]) := ⟨pl205⟩
instance v_ub205 : V (((fldsOf prog 205).toList.all fun f => (prog.info? f.type).isSome)) (true) := ⟨ub205⟩
instance v_u2 : V (prog.underlying 2) (some (.int .i64)) := ⟨u2⟩
instance v_u3 : V (prog.underlying 3) (some (.int .i64)) := ⟨u3⟩
instance v_u5 : V (prog.underlying 5) (some (.int .u8)) := ⟨u5⟩
instance v_u189 : V (prog.underlying 189) (some (.int .u64)) := ⟨u189⟩
end Go.Proofs.Tryz.K
end
section
namespace Go.Abs
open Go.ChangeShapes Go.WideShapes
inductive ArgsOf : List Sh -> List D -> Prop
 | nil : ArgsOf [] []
 | cons {s : Sh} {l : List Sh} {ds : List D} (x : s.val) (hx : s.ok x) (h : ArgsOf l ds) : ArgsOf (s :: l) (s.arg x :: ds)
def shTs (P : Program) (n : Nat) : List TypeId -> Option (List Sh)
 | [] => some []
 | t :: ts => match shT P n t, shTs P n ts with
  | some s, some l => some (s :: l)
  | _, _ => none
theorem shTs_cons {P : Program} {n : Nat} {t : TypeId} {ts : List TypeId} {l : List Sh} (h : shTs P n (t :: ts) = some l) : ∃ s l', shT P n t = some s /\ shTs P n ts = some l' /\ l = s :: l' := by
 simp only [shTs] at h
 split at h
 ·rename_i s l' h1 h2
  simp only [Option.some.injEq] at h
  exact ⟨s, l', h1, h2, h.symm⟩
 ·cases h
section
variable {P : Program} {H : Type} {ec : TypeId × Value -> H} {w w' : World} {base b0 : Nat} {r : Reach}
theorem args_R {n : Nat} : ∀ {ts : List TypeId} {shs : List Sh} {vs : List Value} {ds : List (DataW H)} {ps : List MemPlace}, shTs P n ts = some shs ->
  (∀ (j : Nat) t v, ts[j]? = some t -> vs[j]? = some v -> Value.okWide P w r b0 t v) -> DataW.TrodAll ec P w base (fun _ => true) true ts vs ds ps ->
  ∃ aS, ArgsOf shs aS /\ aS.length = vs.length /\ ∀ (k : Nat) (d : D) (v : Value), aS[k]? = some d -> vs[k]? = some v -> R (fun _ => False) noRows w d v
 | [], shs, [], [], _, hs, _, _ => by
  simp only [shTs, Option.some.injEq] at hs
  subst hs
  exact ⟨[], .nil, rfl, by simp⟩
 | t :: ts, shs, v :: vs, d :: ds, ps, hs, hok, h => by
  obtain ⟨p, q, h1, h2, _⟩ := h
  obtain ⟨s, l', g1, g2, rfl⟩ := shTs_cons hs
  obtain ⟨x, hxo, hx⟩ := arg_R g1 (hok 0 t v rfl rfl) h1
  obtain ⟨aS, a1, a2, a3⟩ := args_R g2 (fun j t v hj hv => hok (j + 1) t v (by simpa using hj) (by simpa using hv)) h2
  refine ⟨s.arg x :: aS, .cons x hxo a1, by simp [a2], fun k d v hd hv => ?_⟩
  cases k with
  | zero =>
   simp only [List.getElem?_cons_zero, Option.some.injEq] at hd hv
   subst hd hv
   exact hx
  | succ k => exact a3 k d v (by simpa using hd) (by simpa using hv)
 | [], _, _ :: _, _, _, _, _, h => by simp [DataW.TrodAll] at h
 | [], _, [], _ :: _, _, _, _, h => by simp [DataW.TrodAll] at h
 | _ :: _, _, [], _, _, _, _, h => by simp [DataW.TrodAll] at h
 | _ :: _, _, _ :: _, [], _, _, _, h => by simp [DataW.TrodAll] at h
theorem Kept.same (h : Kept w w') {p : MemPlace} (hp : p.block < w.heap.size) : w.sameAt w' p := by
 cases p with
 | cell b o => exact Go.World.cell?_of_block (w := w) (h.2.1 b hp)
 | map b => exact h.2.1 b hp
theorem Kept.frame (h : Kept w w') (may : MemPlace -> Prop) : w.keptBut w' may := by
 refine ⟨h.2.2.1, h.2.2.2, fun i hi => ?_⟩
 rw [h.2.1 i hi]
 split <;> simp_all
theorem trodAll_stays (hl : laidOutB P = true) (h : Kept w w') : ∀ {ts : List TypeId} {vs : List Value} {ds : List (DataW H)} {ps : List MemPlace}, (ts.all fun t => P.readableRec t && decide (t < P.types.size)) = true ->
  DataW.TrodAll ec P w 0 (fun _ => true) true ts vs ds ps -> DataW.TrodAll ec P w' 0 (fun b => decide (b < w.heap.size)) true ts vs ds ps
 | [], [], [], _, _, h0 => h0
 | t :: ts, v :: vs, d :: ds, ps, ht, h0 => by
  obtain ⟨p, q, h1, h2, rfl⟩ := h0
  simp only [List.all_cons, Bool.and_eq_true, decide_eq_true_eq] at ht
  have hlt : ∀ x ∈ p, x.block < w.heap.size := by obtain ⟨m, hm⟩ := h1; exact DataW.trod_lt m _ _ _ hm
  exact ⟨p, q, WideElems.Trod_stays hl ht.1.1 ht.1.2 h1 (fun x hx => h.same (hlt x hx)) (fun x hx => by simpa using hlt x hx), trodAll_stays hl h (by simpa using ht.2) h2, rfl⟩
 | [], _ :: _, _, _, _, h0 => by simp [DataW.TrodAll] at h0
 | [], [], _ :: _, _, _, h0 => by simp [DataW.TrodAll] at h0
 | _ :: _, [], _, _, _, h0 => by simp [DataW.TrodAll] at h0
 | _ :: _, _ :: _, [], _, _, h0 => by simp [DataW.TrodAll] at h0
theorem trodAll_len : ∀ {ts : List TypeId} {vs : List Value} {ds : List (DataW H)} {ps : List MemPlace}, DataW.TrodAll ec P w 0 (fun _ => true) true ts vs ds ps -> ds.length = ts.length
 | [], [], [], _, _ => rfl
 | t :: ts, v :: vs, d :: ds, ps, h0 => by
  obtain ⟨p, q, h1, h2, rfl⟩ := h0
  simp [trodAll_len h2]
 | [], _ :: _, _, _, h0 => by simp [DataW.TrodAll] at h0
 | [], [], _ :: _, _, h0 => by simp [DataW.TrodAll] at h0
 | _ :: _, [], _, _, h0 => by simp [DataW.TrodAll] at h0
 | _ :: _, _ :: _, [], _, h0 => by simp [DataW.TrodAll] at h0
end
theorem law_contract {C : Checked} {f : FuncId} {fn : Func} {s : ChangeSpec} {H : Type} {ec : TypeId × Value -> H} {n : Nat} {shs : List Sh} {tb : TypeId}
  (hvars : s.vars = []) (hs : ∀ ds : List (DataW H), ds.length = fn.params.size -> s.fn H ds = { results := [.lit (.bool true)], args := ds })
  (hlaid : laidOutB C.prog = true) (hread : (fn.params.toList.all fun t => C.prog.readableRec t && decide (t < C.prog.types.size)) = true) (hres : fn.resultTypes = #[tb]) (hb : C.prog.underlying tb = some .bool)
  (hsh : shTs C.prog n fn.params.toList = some shs) (h : ∀ aS, ArgsOf shs aS -> PCall C.prog f aS (.s (.bool true)))
  (W : World) (base : Nat) (args : Array Value) (ds gs : List (DataW H)) (before : List MemPlace)
  (hval : ∀ (j : Nat) t v, fn.params[j]? = some t -> args[j]? = some v -> Value.okWide C.prog W .any base t v)
  (hW : DataW.Whole ec C.prog fn.params.toList s.vars false W args.toList ds gs before) :
  Calls C.prog f args W fun e W' => ∃ v, e = .returned v /\ s.post ec C.prog fn false true false false W args v W' := by
 have hW' := hW
 obtain ⟨p, q, hA, hV, rfl, hfz, hnd⟩ := hW
 rw [hvars] at hV
 have hg : gs = [] /\ q = [] := by
  cases gs with
  | nil => exact ⟨rfl, hV⟩
  | cons g gs => exact hV.elim
 obtain ⟨rfl, rfl⟩ := hg
 obtain ⟨aS, a1, a2, a3⟩ := args_R hsh (fun j t v hj hv => hval j t v (by simpa using hj) (by simpa using hv)) hA
 refine ((h aS a1).2.2 (fun _ => False) W args (fun _ hf => hf.elim) ⟨by simpa using a2.symm, fun k d v hd hv => a3 k d v hd (by simpa using hv)⟩).mono ?_
 rintro e W' ⟨v, rfl, hv, hk⟩
 obtain ⟨rfl, _⟩ := hv.s_inv
 have hlen : ds.length = fn.params.size := by simpa using trodAll_len hA
 refine ⟨_, rfl, ds, [], _, [], p, [], hW', ?_, ?_, ?_, hk.frame _, fun h => by cases h⟩
 ·rw [List.append_nil, hs ds hlen, hres]
  exact ⟨[], [], ⟨1, by simp [DataW.trod, Value.cells, hb]⟩, rfl, rfl⟩
 ·rw [List.append_nil, hs ds hlen]
  exact trodAll_stays hlaid hk hread hA
 ·rw [List.append_nil, hs ds hlen, hvars]
  rfl
end Go.Abs
end
section
open Go Go.Abs Go.Proofs Go.Argus
namespace Go.Proofs.Tryz.K
set_option maxRecDepth 10000
theorem k252 {l : List Int} {g : FuncId} {fs cs : List D} {p : Int -> Bool} (ht : Tr (.fn (.func g) fs cs)) (hg : ∀ x ∈ l, PCall prog g (fs ++ [U8 x] ++ cs) (B (p x))) : PCall prog 252 [encBytes l, .fn (.func g) fs cs] (I (idxF p l)) := by
 refine pcall_real ok252.he (.cons (tr_bytes _) (.cons ht .nil)) fun hreal => ?_
 have hlen := (hreal (encBytes l) (by simp)).sl.1
 unfold maxLen at hlen
 refine pcall_of mixed ok252 (by rw [nt252]; rfl) (.cons (tr_bytes _) (.cons ht .nil)) (Tr.s _) ?_
 rw [rs252, sk252]
 refine ws ?_;refine J3 ?_
 refine ao_end (w_assoc (w_seq_region_g ?_))
 refine J17 ?_;refine J15 ?_;refine J0 ?_
 refine ao_end (w_then (fun s => Ghost prog s ⟨envL [], fun _ => none, 0⟩ /\ ∀ (j : Nat) y, l[j]? = some y -> p y = false) (w_range (α := Nat) (fun k => ⟨envL [(0, encBytes l), (1, .fn (.func g) fs cs), (7, I l.length), (8, I k)], fun _ => none, 0⟩)
  (fun k => k <= l.length /\ ∀ j y, j < k -> l[j]? = some y -> p y = false) (fun k => l.length - k) 0 (ghost_of eH) ⟨by omega, fun j y hj => by omega⟩ ?_) ?_)
 ·rintro k ⟨hk, hinv⟩
  refine J16 ?_
  refine ao_end ⟨_, rfl, fun h => ?_, fun h => ?_⟩
  ·have hlt : k < l.length := by simpa using h
   have hx : l[k]? = some l[k] := by simp [hlt]
   generalize l[k] = x at hx
   have kc := hg x (List.mem_of_getElem? hx)
   refine ws ?_;refine J0 ?_;refine J3 ?_;refine er ?_;refine J42 ?_;refine J17 ?_;refine J0 ?_;refine J21 ?_;refine J4 ?_;refine cl kc ?_
   refine ao_end (w_if rfl (fun hp => ?_) fun hp => ?_)
   ·refine ws ?_;refine J0 ?_;refine J3 ?_
    refine ao_end (w_ret (j_body (j_seq (q_ret1 rfl ?_))))
    rw [idxF_some hx hp hinv]
    rfl
   ·refine w_end ?_
    refine J11 ?_;refine J0 ?_
    refine ao_end (next_of (k + 1) (ghost_of eH) ⟨by omega, fun j y hj hy => ?_⟩ oG)
    by_cases e : j = k
    ·subst e; rw [hx] at hy; cases hy; exact hp
    ·exact hinv j y oG hy
  ·have hge : ¬ k < l.length := by simpa using h
   exact ⟨.forget _ _ _ _ fun _ => .inr rfl, fun j y hy => hinv j y (by have := (List.getElem?_eq_some_iff.1 hy).1; omega) hy⟩
 ·rintro s ⟨hg, hnone⟩
  refine ⟨_, hg, w_seq_region ?_⟩
  refine J3 ?_
  refine ao_end (q_ret1 rfl ?_)
  rw [idxF_none hnone]
  rfl
theorem k228 {l : List Int} {g : FuncId} {fs cs : List D} {p : Int -> Bool} (ht : Tr (.fn (.func g) fs cs)) (hg : ∀ x ∈ l, PCall prog g (fs ++ [U8 x] ++ cs) (B (p x))) : PCall prog 228 [encBytes l, .fn (.func g) fs cs] (B (l.any p)) := by
 have k252 := k252 ht hg
 refine pcall_of mixed ok228 (by rw [nt228]; rfl) (.cons (tr_bytes _) (.cons ht .nil)) (Tr.s _) ?_
 rw [rs228, sk228]
 refine ws ?_;refine J1 ?_;refine er ?_;refine J17 ?_;refine J42 ?_;refine cl k252 ?_;refine J61 ?_;refine J1 ?_
 refine ao_end (q_ret1 rfl ?_)
 rw [<- idxF_any]
 rfl
theorem k231 {l : List ByteArray} {g : FuncId} {fs cs : List D} {p : ByteArray -> Bool} (ht : Tr (.fn (.func g) fs cs)) (hg : ∀ x ∈ l, PCall prog g (fs ++ [S x] ++ cs) (B (p x))) : PCall prog 231 [encStrs l, .fn (.func g) fs cs] (I (idxF p l)) := by
 refine pcall_real ok231.he (.cons (tr_strs _) (.cons ht .nil)) fun hreal => ?_
 have hlen := (hreal (encStrs l) (by simp)).sl.1
 unfold maxLen at hlen
 refine pcall_of mixed ok231 (by rw [nt231]; rfl) (.cons (tr_strs _) (.cons ht .nil)) (Tr.s _) ?_
 rw [rs231, sk231]
 refine ws ?_;refine J3 ?_
 refine ao_end (w_assoc (w_seq_region_g ?_))
 refine J17 ?_;refine J15 ?_;refine J0 ?_
 refine ao_end (w_then (fun s => Ghost prog s ⟨envL [], fun _ => none, 0⟩ /\ ∀ (j : Nat) y, l[j]? = some y -> p y = false) (w_range (α := Nat) (fun k => ⟨envL [(0, encStrs l), (1, .fn (.func g) fs cs), (7, I l.length), (8, I k)], fun _ => none, 0⟩)
  (fun k => k <= l.length /\ ∀ j y, j < k -> l[j]? = some y -> p y = false) (fun k => l.length - k) 0 (ghost_of eH) ⟨by omega, fun j y hj => by omega⟩ ?_) ?_)
 ·rintro k ⟨hk, hinv⟩
  refine J16 ?_
  refine ao_end ⟨_, rfl, fun h => ?_, fun h => ?_⟩
  ·have hlt : k < l.length := by simpa using h
   have hx : l[k]? = some l[k] := by simp [hlt]
   generalize l[k] = x at hx
   have kc := hg x (List.mem_of_getElem? hx)
   refine ws ?_;refine J0 ?_;refine J3 ?_;refine er ?_;refine J42 ?_;refine J17 ?_;refine J0 ?_;refine J21 ?_;refine J4 ?_;refine cl kc ?_
   refine ao_end (w_if rfl (fun hp => ?_) fun hp => ?_)
   ·refine ws ?_;refine J0 ?_;refine J3 ?_
    refine ao_end (w_ret (j_body (j_seq (q_ret1 rfl ?_))))
    rw [idxF_some hx hp hinv]
    rfl
   ·refine w_end ?_
    refine J11 ?_;refine J0 ?_
    refine ao_end (next_of (k + 1) (ghost_of eH) ⟨by omega, fun j y hj hy => ?_⟩ oG)
    by_cases e : j = k
    ·subst e; rw [hx] at hy; cases hy; exact hp
    ·exact hinv j y oG hy
  ·have hge : ¬ k < l.length := by simpa using h
   exact ⟨.forget _ _ _ _ fun _ => .inr rfl, fun j y hy => hinv j y (by have := (List.getElem?_eq_some_iff.1 hy).1; omega) hy⟩
 ·rintro s ⟨hg, hnone⟩
  refine ⟨_, hg, w_seq_region ?_⟩
  refine J3 ?_
  refine ao_end (q_ret1 rfl ?_)
  rw [idxF_none hnone]
  rfl
theorem k192 {l : List ByteArray} {g : FuncId} {fs cs : List D} {p : ByteArray -> Bool} (ht : Tr (.fn (.func g) fs cs)) (hg : ∀ x ∈ l, PCall prog g (fs ++ [S x] ++ cs) (B (p x))) : PCall prog 192 [encStrs l, .fn (.func g) fs cs] (B (l.any p)) := by
 have k231 := k231 ht hg
 refine pcall_of mixed ok192 (by rw [nt192]; rfl) (.cons (tr_strs _) (.cons ht .nil)) (Tr.s _) ?_
 rw [rs192, sk192]
 refine ws ?_;refine J1 ?_;refine er ?_;refine J17 ?_;refine J42 ?_;refine cl k231 ?_;refine J61 ?_;refine J1 ?_
 refine ao_end (q_ret1 rfl ?_)
 rw [<- idxF_any]
 rfl
theorem k157 {l : List Block} {g : FuncId} {fs cs : List D} {p : Block -> Bool} (ht : Tr (.fn (.func g) fs cs)) (hg : ∀ x ∈ l, PCall prog g (fs ++ [.agg (encBlock x)] ++ cs) (B (p x))) : PCall prog 157 [encBlocks l, .fn (.func g) fs cs] (I (idxF p l)) := by
 refine pcall_real ok157.he (.cons (tr_blocks _) (.cons ht .nil)) fun hreal => ?_
 have hlen := (hreal (encBlocks l) (by simp)).sl.1
 unfold maxLen at hlen
 refine pcall_of mixed ok157 (by rw [nt157]; rfl) (.cons (tr_blocks _) (.cons ht .nil)) (Tr.s _) ?_
 rw [rs157, sk157]
 refine ws ?_;refine J3 ?_
 refine ao_end (w_assoc (w_seq_region_g ?_))
 refine J17 ?_;refine J15 ?_;refine J0 ?_
 refine ao_end (w_then (fun s => Ghost prog s ⟨envL [], fun _ => none, 0⟩ /\ ∀ (j : Nat) y, l[j]? = some y -> p y = false) (w_range (α := Nat) (fun k => ⟨envL [(0, encBlocks l), (1, .fn (.func g) fs cs), (7, I l.length), (8, I k)], fun _ => none, 0⟩)
  (fun k => k <= l.length /\ ∀ j y, j < k -> l[j]? = some y -> p y = false) (fun k => l.length - k) 0 (ghost_of eH) ⟨by omega, fun j y hj => by omega⟩ ?_) ?_)
 ·rintro k ⟨hk, hinv⟩
  refine J16 ?_
  refine ao_end ⟨_, rfl, fun h => ?_, fun h => ?_⟩
  ·have hlt : k < l.length := by simpa using h
   have hx : l[k]? = some l[k] := by simp [hlt]
   generalize l[k] = x at hx
   have kc := hg x (List.mem_of_getElem? hx)
   refine ws ?_;refine J0 ?_;refine J3 ?_;refine er ?_;refine J42 ?_;refine J17 ?_;refine J0 ?_;refine J54 ?_;refine J62 ?_;refine cl kc ?_
   refine ao_end (w_if rfl (fun hp => ?_) fun hp => ?_)
   ·refine ws ?_;refine J0 ?_;refine J3 ?_
    refine ao_end (w_ret (j_body (j_seq (q_ret1 rfl ?_))))
    rw [idxF_some hx hp hinv]
    rfl
   ·refine w_end ?_
    refine J11 ?_;refine J0 ?_
    refine ao_end (next_of (k + 1) (ghost_of eH) ⟨by omega, fun j y hj hy => ?_⟩ oG)
    by_cases e : j = k
    ·subst e; rw [hx] at hy; cases hy; exact hp
    ·exact hinv j y oG hy
  ·have hge : ¬ k < l.length := by simpa using h
   exact ⟨.forget _ _ _ _ fun _ => .inr rfl, fun j y hy => hinv j y (by have := (List.getElem?_eq_some_iff.1 hy).1; omega) hy⟩
 ·rintro s ⟨hg, hnone⟩
  refine ⟨_, hg, w_seq_region ?_⟩
  refine J3 ?_
  refine ao_end (q_ret1 rfl ?_)
  rw [idxF_none hnone]
  rfl
theorem k98 {l : List Block} {g : FuncId} {fs cs : List D} {p : Block -> Bool} (ht : Tr (.fn (.func g) fs cs)) (hg : ∀ x ∈ l, PCall prog g (fs ++ [.agg (encBlock x)] ++ cs) (B (p x))) : PCall prog 98 [encBlocks l, .fn (.func g) fs cs] (B (l.any p)) := by
 have k157 := k157 ht hg
 refine pcall_of mixed ok98 (by rw [nt98]; rfl) (.cons (tr_blocks _) (.cons ht .nil)) (Tr.s _) ?_
 rw [rs98, sk98]
 refine ws ?_;refine J1 ?_;refine er ?_;refine J17 ?_;refine J42 ?_;refine cl k157 ?_;refine J61 ?_;refine J1 ?_
 refine ao_end (q_ret1 rfl ?_)
 rw [<- idxF_any]
 rfl
theorem k158 {l : List Ins} {g : FuncId} {fs cs : List D} {p : Ins -> Bool} (ht : Tr (.fn (.func g) fs cs)) (hg : ∀ x ∈ l, PCall prog g (fs ++ [.agg (encIns x)] ++ cs) (B (p x))) : PCall prog 158 [encInss l, .fn (.func g) fs cs] (I (idxF p l)) := by
 refine pcall_real ok158.he (.cons (tr_inss _) (.cons ht .nil)) fun hreal => ?_
 have hlen := (hreal (encInss l) (by simp)).sl.1
 unfold maxLen at hlen
 refine pcall_of mixed ok158 (by rw [nt158]; rfl) (.cons (tr_inss _) (.cons ht .nil)) (Tr.s _) ?_
 rw [rs158, sk158]
 refine ws ?_;refine J3 ?_
 refine ao_end (w_assoc (w_seq_region_g ?_))
 refine J17 ?_;refine J15 ?_;refine J0 ?_
 refine ao_end (w_then (fun s => Ghost prog s ⟨envL [], fun _ => none, 0⟩ /\ ∀ (j : Nat) y, l[j]? = some y -> p y = false) (w_range (α := Nat) (fun k => ⟨envL [(0, encInss l), (1, .fn (.func g) fs cs), (7, I l.length), (8, I k)], fun _ => none, 0⟩)
  (fun k => k <= l.length /\ ∀ j y, j < k -> l[j]? = some y -> p y = false) (fun k => l.length - k) 0 (ghost_of eH) ⟨by omega, fun j y hj => by omega⟩ ?_) ?_)
 ·rintro k ⟨hk, hinv⟩
  refine J16 ?_
  refine ao_end ⟨_, rfl, fun h => ?_, fun h => ?_⟩
  ·have hlt : k < l.length := by simpa using h
   have hx : l[k]? = some l[k] := by simp [hlt]
   generalize l[k] = x at hx
   have kc := hg x (List.mem_of_getElem? hx)
   refine ws ?_;refine J0 ?_;refine J3 ?_;refine er ?_;refine J42 ?_;refine J17 ?_;refine J0 ?_;refine J76 ?_;refine J59 ?_;refine cl kc ?_
   refine ao_end (w_if rfl (fun hp => ?_) fun hp => ?_)
   ·refine ws ?_;refine J0 ?_;refine J3 ?_
    refine ao_end (w_ret (j_body (j_seq (q_ret1 rfl ?_))))
    rw [idxF_some hx hp hinv]
    rfl
   ·refine w_end ?_
    refine J11 ?_;refine J0 ?_
    refine ao_end (next_of (k + 1) (ghost_of eH) ⟨by omega, fun j y hj hy => ?_⟩ oG)
    by_cases e : j = k
    ·subst e; rw [hx] at hy; cases hy; exact hp
    ·exact hinv j y oG hy
  ·have hge : ¬ k < l.length := by simpa using h
   exact ⟨.forget _ _ _ _ fun _ => .inr rfl, fun j y hy => hinv j y (by have := (List.getElem?_eq_some_iff.1 hy).1; omega) hy⟩
 ·rintro s ⟨hg, hnone⟩
  refine ⟨_, hg, w_seq_region ?_⟩
  refine J3 ?_
  refine ao_end (q_ret1 rfl ?_)
  rw [idxF_none hnone]
  rfl
theorem k100 {l : List Ins} {g : FuncId} {fs cs : List D} {p : Ins -> Bool} (ht : Tr (.fn (.func g) fs cs)) (hg : ∀ x ∈ l, PCall prog g (fs ++ [.agg (encIns x)] ++ cs) (B (p x))) : PCall prog 100 [encInss l, .fn (.func g) fs cs] (B (l.any p)) := by
 have k158 := k158 ht hg
 refine pcall_of mixed ok100 (by rw [nt100]; rfl) (.cons (tr_inss _) (.cons ht .nil)) (Tr.s _) ?_
 rw [rs100, sk100]
 refine ws ?_;refine J1 ?_;refine er ?_;refine J17 ?_;refine J42 ?_;refine cl k158 ?_;refine J61 ?_;refine J1 ?_
 refine ao_end (q_ret1 rfl ?_)
 rw [<- idxF_any]
 rfl
theorem k260 {l : List When} {g : FuncId} {fs cs : List D} {p : When -> Bool} (ht : Tr (.fn (.func g) fs cs)) (hg : ∀ x ∈ l, PCall prog g (fs ++ [.agg (encWhen x)] ++ cs) (B (p x))) : PCall prog 260 [encWhens l, .fn (.func g) fs cs] (I (idxF p l)) := by
 refine pcall_real ok260.he (.cons (tr_whens _) (.cons ht .nil)) fun hreal => ?_
 have hlen := (hreal (encWhens l) (by simp)).sl.1
 unfold maxLen at hlen
 refine pcall_of mixed ok260 (by rw [nt260]; rfl) (.cons (tr_whens _) (.cons ht .nil)) (Tr.s _) ?_
 rw [rs260, sk260]
 refine ws ?_;refine J3 ?_
 refine ao_end (w_assoc (w_seq_region_g ?_))
 refine J17 ?_;refine J15 ?_;refine J0 ?_
 refine ao_end (w_then (fun s => Ghost prog s ⟨envL [], fun _ => none, 0⟩ /\ ∀ (j : Nat) y, l[j]? = some y -> p y = false) (w_range (α := Nat) (fun k => ⟨envL [(0, encWhens l), (1, .fn (.func g) fs cs), (7, I l.length), (8, I k)], fun _ => none, 0⟩)
  (fun k => k <= l.length /\ ∀ j y, j < k -> l[j]? = some y -> p y = false) (fun k => l.length - k) 0 (ghost_of eH) ⟨by omega, fun j y hj => by omega⟩ ?_) ?_)
 ·rintro k ⟨hk, hinv⟩
  refine J16 ?_
  refine ao_end ⟨_, rfl, fun h => ?_, fun h => ?_⟩
  ·have hlt : k < l.length := by simpa using h
   have hx : l[k]? = some l[k] := by simp [hlt]
   generalize l[k] = x at hx
   have kc := hg x (List.mem_of_getElem? hx)
   refine ws ?_;refine J0 ?_;refine J3 ?_;refine er ?_;refine J42 ?_;refine J17 ?_;refine J0 ?_;refine J108 ?_;refine J109 ?_;refine cl kc ?_
   refine ao_end (w_if rfl (fun hp => ?_) fun hp => ?_)
   ·refine ws ?_;refine J0 ?_;refine J3 ?_
    refine ao_end (w_ret (j_body (j_seq (q_ret1 rfl ?_))))
    rw [idxF_some hx hp hinv]
    rfl
   ·refine w_end ?_
    refine J11 ?_;refine J0 ?_
    refine ao_end (next_of (k + 1) (ghost_of eH) ⟨by omega, fun j y hj hy => ?_⟩ oG)
    by_cases e : j = k
    ·subst e; rw [hx] at hy; cases hy; exact hp
    ·exact hinv j y oG hy
  ·have hge : ¬ k < l.length := by simpa using h
   exact ⟨.forget _ _ _ _ fun _ => .inr rfl, fun j y hy => hinv j y (by have := (List.getElem?_eq_some_iff.1 hy).1; omega) hy⟩
 ·rintro s ⟨hg, hnone⟩
  refine ⟨_, hg, w_seq_region ?_⟩
  refine J3 ?_
  refine ao_end (q_ret1 rfl ?_)
  rw [idxF_none hnone]
  rfl
theorem k254 {l : List When} {g : FuncId} {fs cs : List D} {p : When -> Bool} (ht : Tr (.fn (.func g) fs cs)) (hg : ∀ x ∈ l, PCall prog g (fs ++ [.agg (encWhen x)] ++ cs) (B (p x))) : PCall prog 254 [encWhens l, .fn (.func g) fs cs] (B (l.any p)) := by
 have k260 := k260 ht hg
 refine pcall_of mixed ok254 (by rw [nt254]; rfl) (.cons (tr_whens _) (.cons ht .nil)) (Tr.s _) ?_
 rw [rs254, sk254]
 refine ws ?_;refine J1 ?_;refine er ?_;refine J17 ?_;refine J42 ?_;refine cl k260 ?_;refine J61 ?_;refine J1 ?_
 refine ao_end (q_ret1 rfl ?_)
 rw [<- idxF_any]
 rfl
theorem k130 {l : List Int} {g : FuncId} {fs cs : List D} {p : Int -> Bool} (ht : Tr (.fn (.func g) fs cs)) (hg : ∀ x ∈ l, PCall prog g (fs ++ [I x] ++ cs) (B (p x))) : PCall prog 130 [encInts l, .fn (.func g) fs cs] (I (idxF p l)) := by
 refine pcall_real ok130.he (.cons (tr_ints _) (.cons ht .nil)) fun hreal => ?_
 have hlen := (hreal (encInts l) (by simp)).sl.1
 unfold maxLen at hlen
 refine pcall_of mixed ok130 (by rw [nt130]; rfl) (.cons (tr_ints _) (.cons ht .nil)) (Tr.s _) ?_
 rw [rs130, sk130]
 refine ws ?_;refine J3 ?_
 refine ao_end (w_assoc (w_seq_region_g ?_))
 refine J17 ?_;refine J15 ?_;refine J0 ?_
 refine ao_end (w_then (fun s => Ghost prog s ⟨envL [], fun _ => none, 0⟩ /\ ∀ (j : Nat) y, l[j]? = some y -> p y = false) (w_range (α := Nat) (fun k => ⟨envL [(0, encInts l), (1, .fn (.func g) fs cs), (7, I l.length), (8, I k)], fun _ => none, 0⟩)
  (fun k => k <= l.length /\ ∀ j y, j < k -> l[j]? = some y -> p y = false) (fun k => l.length - k) 0 (ghost_of eH) ⟨by omega, fun j y hj => by omega⟩ ?_) ?_)
 ·rintro k ⟨hk, hinv⟩
  refine J16 ?_
  refine ao_end ⟨_, rfl, fun h => ?_, fun h => ?_⟩
  ·have hlt : k < l.length := by simpa using h
   have hx : l[k]? = some l[k] := by simp [hlt]
   generalize l[k] = x at hx
   have kc := hg x (List.mem_of_getElem? hx)
   refine ws ?_;refine J0 ?_;refine J3 ?_;refine er ?_;refine J42 ?_;refine J17 ?_;refine J0 ?_;refine J21 ?_;refine J4 ?_;refine cl kc ?_
   refine ao_end (w_if rfl (fun hp => ?_) fun hp => ?_)
   ·refine ws ?_;refine J0 ?_;refine J3 ?_
    refine ao_end (w_ret (j_body (j_seq (q_ret1 rfl ?_))))
    rw [idxF_some hx hp hinv]
    rfl
   ·refine w_end ?_
    refine J11 ?_;refine J0 ?_
    refine ao_end (next_of (k + 1) (ghost_of eH) ⟨by omega, fun j y hj hy => ?_⟩ oG)
    by_cases e : j = k
    ·subst e; rw [hx] at hy; cases hy; exact hp
    ·exact hinv j y oG hy
  ·have hge : ¬ k < l.length := by simpa using h
   exact ⟨.forget _ _ _ _ fun _ => .inr rfl, fun j y hy => hinv j y (by have := (List.getElem?_eq_some_iff.1 hy).1; omega) hy⟩
 ·rintro s ⟨hg, hnone⟩
  refine ⟨_, hg, w_seq_region ?_⟩
  refine J3 ?_
  refine ao_end (q_ret1 rfl ?_)
  rw [idxF_none hnone]
  rfl
theorem k119 {l : List Int} {g : FuncId} {fs cs : List D} {p : Int -> Bool} (ht : Tr (.fn (.func g) fs cs)) (hg : ∀ x ∈ l, PCall prog g (fs ++ [I x] ++ cs) (B (p x))) : PCall prog 119 [encInts l, .fn (.func g) fs cs] (B (l.any p)) := by
 have k130 := k130 ht hg
 refine pcall_of mixed ok119 (by rw [nt119]; rfl) (.cons (tr_ints _) (.cons ht .nil)) (Tr.s _) ?_
 rw [rs119, sk119]
 refine ws ?_;refine J1 ?_;refine er ?_;refine J17 ?_;refine J42 ?_;refine cl k130 ?_;refine J61 ?_;refine J1 ?_
 refine ao_end (q_ret1 rfl ?_)
 rw [<- idxF_any]
 rfl
end Go.Proofs.Tryz.K
end
section
open Go Go.Abs Go.Proofs Go.Argus
namespace Go.Proofs.Tryz.K
set_option maxRecDepth 10000
theorem k96 {n a b : Int} : PCall prog 96 [I n, I a, I b] (B (inR n a b)) := by
 refine pcall_of mixed ok96 (by rw [nt96]; rfl) (by simp [Tr.s]) (Tr.s _) ?_
 rw [rs96, sk96]
 refine ws ?_;refine J1 ?_;refine er ?_;refine J0 ?_;refine J0 ?_;refine J61 ?_;refine J2 ?_;refine J10 ?_;refine J10 ?_;refine J93 ?_;refine J9 ?_;refine J1 ?_
 refine ao_end (q_ret1 (d := .s (.bool _)) rfl ?_)
 simp [inR]
theorem k229 {b : Int} : PCall prog 229 [U8 b] (B (flowByte b)) := by
 refine pcall_of mixed ok229 (by rw [nt229]; rfl) (by simp [Tr.s]) (Tr.s _) ?_
 rw [rs229, sk229]
 refine ws ?_;refine J1 ?_;refine er ?_;refine J0 ?_;refine J16 ?_;refine J2 ?_;refine J10 ?_;refine J41 ?_;refine J9 ?_;refine J1 ?_
 refine ao_end (q_ret1 (d := .s (.bool _)) rfl ?_)
 simp [flowByte]
theorem k232 {b : Int} : PCall prog 232 [U8 b] (B (nameByte b)) := by
 refine pcall_of mixed ok232 (by rw [nt232]; rfl) (by simp [Tr.s]) (Tr.s _) ?_
 rw [rs232, sk232]
 refine ws ?_;refine J1 ?_;refine er ?_;refine J0 ?_;refine J16 ?_;refine J2 ?_;refine J10 ?_;refine J41 ?_;refine J9 ?_;refine J2 ?_;refine J10 ?_;refine J94 ?_;refine J27 ?_;refine J10 ?_;refine J41 ?_;refine J63 ?_;refine J9 ?_;refine J1 ?_
 refine ao_end (q_ret1 (d := .s (.bool _)) rfl ?_)
 simp [nameByte]
theorem k190 {s : ByteArray} : PCall prog 190 [S s] (B (isFlow s)) := by
 refine pcall_of mixed ok190 (by rw [nt190]; rfl) (by simp [Tr.s]) (Tr.s _) ?_
 have k228 := k228 (l := strBytes s) (g := 229) (fs := []) (cs := []) (p := flowByte) (.fn (by simp) (by simp)) (fun x _ => k229)
 rw [rs190, sk190]
 refine ws ?_;refine J1 ?_;refine er ?_;refine J134 ?_;refine J135 ?_;refine cl k96 ?_;refine J2 ?_
 refine ao_g rfl rfl (e_move (v := .s (.string _)) rfl) (fun hc => ⟨ak, trivial⟩) ?_
 refine ao_g rfl rfl (e_bytesB rfl V.h V.h) (fun hc => ⟨ak, ⟨V.h, by have := inR_true.1 (by simpa using hc); unfold maxLen; omega⟩⟩) ?_
 refine gc k228 ?_;refine J33 ?_;refine J9 ?_;refine J1 ?_
 refine ao_end (q_ret1 (d := .s (.bool _)) rfl ?_)
 simp [isFlow]
theorem k194 {s : ByteArray} : PCall prog 194 [S s] (B (isName s)) := by
 refine pcall_of mixed ok194 (by rw [nt194]; rfl) (by simp [Tr.s]) (Tr.s _) ?_
 have k228 := k228 (l := strBytes s) (g := 232) (fs := []) (cs := []) (p := nameByte) (.fn (by simp) (by simp)) (fun x _ => k232)
 rw [rs194, sk194]
 refine ws ?_;refine J1 ?_;refine er ?_;refine J134 ?_;refine J135 ?_;refine cl k96 ?_;refine J2 ?_
 refine ao_g rfl rfl (e_move (v := .s (.string _)) rfl) (fun hc => ⟨ak, trivial⟩) ?_
 refine ao_g rfl rfl (e_bytesB rfl V.h V.h) (fun hc => ⟨ak, ⟨V.h, by have := inR_true.1 (by simpa using hc); unfold maxLen; omega⟩⟩) ?_
 refine gc k228 ?_;refine J33 ?_;refine J9 ?_;refine J1 ?_
 refine ao_end (q_ret1 (d := .s (.bool _)) rfl ?_)
 simp [isName]
theorem k193 {s : ByteArray} : PCall prog 193 [S s] (B !(isName s)) := by
 refine pcall_of mixed ok193 (by rw [nt193]; rfl) (by simp [Tr.s]) (Tr.s _) ?_
 rw [rs193, sk193]
 refine ws ?_;refine J1 ?_;refine er ?_;refine J134 ?_;refine cl k194 ?_;refine J32 ?_;refine J1 ?_
 refine ao_end (q_ret1 rfl rfl)
theorem k230 {b m : Int} : PCall prog 230 [U8 b, .pt [U8 m]] (B (kindByte m b)) := by
 refine pcall_of mixed ok230 (by rw [nt230]; rfl) (.cons (.s _) (.cons (.pt (by simp [Tr.s])) .nil)) (Tr.s _) ?_
 rw [rs230, sk230]
 refine ws ?_;refine J1 ?_;refine er ?_;refine J0 ?_;refine J16 ?_;refine J2 ?_;refine J10 ?_;refine J6 ?_;refine J41 ?_;refine J9 ?_;refine J1 ?_
 refine ao_end (q_ret1 (d := .s (.bool _)) rfl ?_)
 simp [kindByte]
theorem k191 {l : List Int} {m : Int} : PCall prog 191 [encBytes l, U8 m] (B (kindsOk l m)) := by
 refine pcall_of mixed ok191 (by rw [nt191]; rfl) (.cons (tr_bytes _) (.cons (.s _) .nil)) (Tr.s _) ?_
 have k228 := k228 (l := l) (g := 230) (fs := []) (cs := [.pt [U8 m]]) (p := kindByte m) (.fn (by simp) (.cons (.pt (by simp [Tr.s])) .nil)) (fun x _ => k230)
 rw [rs191, sk191]
 refine w_seq_region_g ?_
 refine J86 ?_;refine J1 ?_
 refine ao_end (w_ghost (ghost_fr [(0, [U8 m], 5)] eH (l := [(0, encBytes l), (3, .pt [U8 m])]) eH) (w_seq_region ?_))
 refine J17 ?_;refine J66 ?_;refine cl k228 ?_;refine J32 ?_;refine J1 ?_
 refine ao_end (q_ret1 rfl rfl)
end Go.Proofs.Tryz.K
end
section
open Go Go.Abs Go.Proofs Go.Argus
namespace Go.Proofs.Tryz.K
set_option maxRecDepth 10000
theorem real_code {p q : D} {f : Flow} (h : Real (.agg (encCode p q f))) : f.regs.length <= maxLen /\ f.slots.length <= maxLen /\ f.signals.length <= maxLen /\ f.blocks.length <= maxLen :=
 ⟨(h.agg (encBytes f.regs) (by simp [encCode])).sl.1, (h.agg (encBytes f.slots) (by simp [encCode])).sl.1, (h.agg (encStrs f.signals) (by simp [encCode])).sl.1, (h.agg (encBlocks f.blocks) (by simp [encCode])).sl.1⟩
section
variable {p q : D} {f : Flow} (hp : Tr p) (hq : Tr q) (hp1 : p.one = true) (hq1 : q.one = true)
include hp hq hp1 hq1
theorem k233 {n : Int} : PCall prog 233 [.agg (encCode p q f), I n] (B (inR n 0 (f.blocks.length - 1))) := by
 have htr : ∀ a ∈ [D.agg (encCode p q f), I n], Tr a := .cons (tr_code hp hq f) (.cons (.s _) .nil)
 refine pcall_real ok233.he htr fun hreal => ?_
 obtain ⟨l1, l2, l3, l4⟩ := real_code (hreal _ (List.mem_cons_self ..))
 unfold maxLen at *
 refine pcall_of mixed ok233 (by rw [nt233]; rfl) htr (Tr.s _) ?_
 rw [rs233, sk233]
 refine ws ?_;refine J60 ?_;refine J1 ?_;refine er ?_;refine J0 ?_;refine J14 ?_;refine J14 ?_;refine J26 ?_;refine J15 ?_;refine J71 ?_;refine cl k96 ?_;refine J1 ?_
 refine ao_end (q_ret1 rfl rfl)
theorem k234 {r : Int} : PCall prog 234 [.agg (encCode p q f), I r] (U8 (kindR f.regs r)) := by
 have htr : ∀ a ∈ [D.agg (encCode p q f), I r], Tr a := .cons (tr_code hp hq f) (.cons (.s _) .nil)
 refine pcall_real ok234.he htr fun hreal => ?_
 obtain ⟨l1, l2, l3, l4⟩ := real_code (hreal _ (List.mem_cons_self ..))
 unfold maxLen at *
 refine pcall_of mixed ok234 (by rw [nt234]; rfl) htr (Tr.s _) ?_
 rw [rs234, sk234]
 refine ws ?_;refine J60 ?_;refine J3 ?_
 refine ao_end (w_assoc (w_seq_region ?_))
 refine J0 ?_;refine J14 ?_;refine J14 ?_;refine J26 ?_;refine J15 ?_;refine J71 ?_;refine cl k96 ?_;refine J32 ?_
 refine ao_end (w_seq_if rfl (fun h => ?_) fun h => ?_)
 ·refine w_assoc (w_seq_region ?_)
  refine J3 ?_
  refine ao_end (w_seq_ret (q_ret1 rfl ?_))
  rw [kindR_out (fun hh => by simp [inR] at h; omega)]
  rfl
 ·have hh : 0 <= r /\ r < f.regs.length := by simp [inR] at h; omega
  obtain ⟨i, rfl⟩ := Int.eq_ofNat_of_zero_le hh.1
  have hlt : i < f.regs.length := by omega
  have hx : f.regs[i]? = some f.regs[i] := by simp [hlt]
  generalize f.regs[i] = x at hx
  refine w_seq_skip (w_seq_region ?_)
  refine J14 ?_;refine J14 ?_;refine J26 ?_;refine J0 ?_;refine J21 ?_;refine J4 ?_;refine J3 ?_
  refine ao_end (q_ret1 rfl ?_)
  rw [kindR_in hx]
  rfl
theorem k256 {r : Int} : PCall prog 256 [I r, .pt (encCode p q f)] (B !(valueR f.regs r)) := by
 have htr : ∀ a ∈ [I r, D.pt (encCode p q f)], Tr a := .cons (.s _) (.cons (.pt (trs_code hp hq f)) .nil)
 have k234 := k234 (f := f) (r := r) hp hq hp1 hq1
 refine pcall_of mixed ok256 (by rw [nt256]; rfl) htr (Tr.s _) ?_
 rw [rs256, sk256]
 refine ws ?_;refine J1 ?_;refine er ?_;refine J48 ?_;refine J0 ?_;refine cl k234 ?_;refine J35 ?_;refine J2 ?_;refine J22 ?_;refine J10 ?_;refine gc k234 ?_;refine J46 ?_;refine J9 ?_;refine J1 ?_
 refine ao_end (q_ret1 (d := .s (.bool _)) rfl ?_)
 unfold valueR
 generalize kindR f.regs r = k
 show D.s (.bool _) = D.s (.bool _)
 simp only [bne]
 cases (k == 1) <;> cases (k == 2) <;> rfl
theorem k237 {l : List Int} : PCall prog 237 [.agg (encCode p q f), encInts l] (B (valuesR f.regs l)) := by
 have htr : ∀ a ∈ [D.agg (encCode p q f), encInts l], Tr a := .cons (tr_code hp hq f) (.cons (tr_ints _) .nil)
 have k119 := k119 (l := l) (g := 256) (fs := []) (cs := [.pt (encCode p q f)]) (p := fun r => !(valueR f.regs r)) (.fn (by simp) (.cons (.pt (trs_code hp hq f)) .nil)) (fun x _ => k256 hp hq hp1 hq1)
 refine pcall_of mixed ok237 (by rw [nt237]; rfl) htr (Tr.s _) ?_
 rw [rs237, sk237]
 refine w_seq_region_g ?_
 refine J60 ?_;refine J1 ?_
 refine ao_end (w_ghost (ghost_fr [(0, encCode p q f, 133)] eH (l := [(1, encInts l), (2, .pt (encCode p q f))]) eH) (w_seq_region ?_))
 refine J17 ?_;refine J66 ?_;refine cl k119 ?_;refine J32 ?_;refine J1 ?_
 refine ao_end (q_ret1 (d := .s (.bool _)) rfl ?_)
 simp [valuesR, List.all_eq_not_any_not]
theorem k239 {r n : Int} : PCall prog 239 [.agg (encCode p q f), I r, I n] (B (slotR f.regs f.slots r n)) := by
 have htr : ∀ a ∈ [D.agg (encCode p q f), I r, I n], Tr a := .cons (tr_code hp hq f) (.cons (.s _) (.cons (.s _) .nil))
 refine pcall_real ok239.he htr fun hreal => ?_
 obtain ⟨l1, l2, l3, l4⟩ := real_code (hreal _ (List.mem_cons_self ..))
 unfold maxLen at *
 have k234 := k234 (f := f) (r := r) hp hq hp1 hq1
 refine pcall_of mixed ok239 (by rw [nt239]; rfl) htr (Tr.s _) ?_
 rw [rs239, sk239]
 have k96 := k96 (n := n) (a := 0) (b := f.slots.length - 1)
 by_cases hh : 0 <= n /\ n < f.slots.length
 ·obtain ⟨i, rfl⟩ := Int.eq_ofNat_of_zero_le hh.1
  have hlt : i < f.slots.length := by omega
  have hx : f.slots[i]? = some f.slots[i] := by simp [hlt]
  generalize f.slots[i] = x at hx
  have hin : inR (i : Int) 0 (f.slots.length - 1) = true := inR_true.2 oG
  rw [hin] at k96
  refine ws ?_;refine J60 ?_;refine J1 ?_
  refine ao_end (w_seq_draw di_r239_1 ?_)
  refine J0 ?_;refine J14 ?_;refine J14 ?_;refine J26 ?_;refine J15 ?_;refine J71 ?_;refine cl k96 ?_;refine J2 ?_
  refine ao_g rfl rfl (e_loadRA (vs := encCode _ _ _) rfl rfl V.h V.h rfl) (fun hc => ⟨ak, (p_loadRA V.h V.h (by first | (simp; done) | omega | exact Nat.le_of_ble_eq_true rfl))⟩) ?_
  refine J10 ?_;refine gc k234 ?_;refine J49 ?_;refine J49 ?_;refine J52 ?_;refine J10 ?_;refine J55 ?_;refine J6 ?_;refine J20 ?_;refine J19 ?_;refine J1 ?_
  refine ao_endc (by simp [apartT]) ?_
  refine q_ret1 (d := .s (.bool _)) rfl ?_
  simp [slotR, hin, kindR_in hx]
 ·have hin : inR n 0 (f.slots.length - 1) = false := inR_false.2 oG
  rw [hin] at k96
  refine ws ?_;refine J60 ?_;refine J1 ?_
  refine ao_end (w_seq_draw di_r239_1 ?_)
  refine J0 ?_;refine J14 ?_;refine J14 ?_;refine J26 ?_;refine J15 ?_;refine J71 ?_;refine cl k96 ?_;refine J2 ?_;refine z fun _ _ => ?_;refine z fun _ _ => ?_;refine z fun _ _ => ?_;refine z fun _ _ => ?_;refine z fun _ _ => ?_;refine z fun _ _ => ?_;refine z fun _ _ => ?_;refine z fun _ _ => ?_;refine z fun _ _ => ?_;refine z fun _ _ => ?_;refine J13 ?_;refine J1 ?_
  refine ao_endc (by simp [apartT]) ?_
  refine q_ret1 (d := .s (.bool _)) rfl ?_
  simp [slotR, hin]
end
end Go.Proofs.Tryz.K
end
section
open Go Go.Abs Go.Proofs Go.Argus
namespace Go.Proofs.Tryz.K
set_option maxRecDepth 10000
section
variable {p q : D} {f : Flow} (hp : Tr p) (hq : Tr q) (hp1 : p.one = true) (hq1 : q.one = true)
include hp hq hp1 hq1
theorem k253 {r want kd : Int} : PCall prog 253 [.agg (encCode p q f), I r, I want, U8 kd] (B (fieldR f.regs r want kd)) := by
 have htr : ∀ a ∈ [D.agg (encCode p q f), I r, I want, U8 kd], Tr a := .cons (tr_code hp hq f) (.cons (.s _) (.cons (.s _) (.cons (.s _) .nil)))
 have k234 := k234 (f := f) (r := r) hp hq hp1 hq1
 refine pcall_of mixed ok253 (by rw [nt253]; rfl) htr (Tr.s _) ?_
 rw [rs253, sk253]
 refine ws ?_;refine J60 ?_;refine J1 ?_;refine er ?_
 refine ao_p (e_loadRA (vs := encCode _ _ _) rfl rfl V.h V.h rfl) ak (p_loadRA V.h V.h (by first | (simp; done) | omega | exact Nat.le_of_ble_eq_true rfl)) ?_
 refine J0 ?_;refine cl k234 ?_;refine J3 ?_
 refine ao_end (w_assoc (w_seq_region ?_))
 refine J0 ?_
 refine ao_end (w_seq_blk (w_seq_region ?_))
 refine J8 ?_;refine J1 ?_
 refine ao_end (w_if rfl (fun h0 => ?_) fun h0 => ?_)
 ·have h0 : want = 0 := by simpa using h0
  refine ws ?_;refine J0 ?_;refine J8 ?_;refine J1 ?_
  refine ao_end (w_ret (j_block (j_seq (q_ret1 (d := .s (.bool _)) rfl ?_))))
  simp [fieldR, h0]
 have h0 : ¬ want = 0 := by simpa using h0
 refine ws ?_;refine J8 ?_;refine J1 ?_
 refine ao_end (w_if rfl (fun h1 => ?_) fun h1 => ?_)
 ·have h1 : want = 1 := by simpa using h1
  refine ws ?_;refine J0 ?_;refine J8 ?_;refine J1 ?_
  refine ao_end (w_ret (j_block (j_seq (q_ret1 (d := .s (.bool _)) rfl ?_))))
  simp [fieldR, h1]
 have h1 : ¬ want = 1 := by simpa using h1
 refine ws ?_;refine J8 ?_;refine J1 ?_
 refine ao_end (w_if rfl (fun h2 => ?_) fun h2 => ?_)
 ·have h2 : want = 2 := by simpa using h2
  refine ws ?_;refine J0 ?_;refine J8 ?_;refine J1 ?_
  refine ao_end (w_ret (j_block (j_seq (q_ret1 (d := .s (.bool _)) rfl ?_))))
  simp [fieldR, h2]
 have h2 : ¬ want = 2 := by simpa using h2
 refine ws ?_;refine J8 ?_;refine J1 ?_
 refine ao_end (w_if rfl (fun h3 => ?_) fun h3 => ?_)
 ·have h3 : want = 3 := by simpa using h3
  refine ws ?_;refine J0 ?_;refine J8 ?_;refine J2 ?_;refine J10 ?_;refine J20 ?_;refine J9 ?_;refine J1 ?_
  refine ao_end (w_ret (j_block (j_seq (q_ret1 (d := .s (.bool _)) rfl ?_))))
  simp [fieldR, h3, valueR, ib]
 have h3 : ¬ want = 3 := by simpa using h3
 refine w_endB (w_seq_region ?_)
 refine J0 ?_;refine J35 ?_;refine J2 ?_;refine J10 ?_;refine J10 ?_;refine J20 ?_;refine J9 ?_;refine J1 ?_
 refine ao_end (q_ret1 (d := .s (.bool _)) rfl ?_)
 simp [fieldR, h0, h1, h2, h3, ib, bne]
theorem k235 {x : Ins} {s : Shape} : PCall prog 235 [.agg (encCode p q f), .agg (encIns x), .agg (encShape s)] (B (shapedR f.regs x s)) := by
 have htr : ∀ a ∈ [D.agg (encCode p q f), .agg (encIns x), .agg (encShape s)], Tr a := .cons (tr_code hp hq f) (.cons (.agg (trs_ins x)) (.cons (.agg (trs_shape s)) .nil))
 have k234 := fun r => k234 (f := f) (r := r) hp hq hp1 hq1
 have k253 := @k253 p q f hp hq hp1 hq1
 have k237 := k237 (f := f) hp hq hp1 hq1 (l := x.args)
 have k96' := k96 (n := x.n) (a := s.low) (b := s.high)
 refine pcall_of mixed ok235 (by rw [nt235]; rfl) htr (Tr.s _) ?_
 rw [rs235, sk235]
 refine w_seq_region_g ?_
 refine J60 ?_;refine J67 ?_
 refine ao_a (e_boxA (cs := encShape _) rfl) ak (by first | rfl | exact one_code hp1 hq1 | exact oneW _ | exact one_S hd1) ?_
 refine J1 ?_
 refine ao_end (w_ghost (ghost_fr [(0, encCode p q f, 133), (1, encIns x, 66), (2, encShape s, 205)] eH (l := [(3, .pt (encCode p q f)), (4, .pt (encIns x)), (5, .pt (encShape s))]) eH) (w_seq_region ?_))
 have k234' := k234
 have k234 := k234 x.to
 refine J48 ?_;refine J5 ?_;refine J4 ?_;refine cl k234 ?_;refine J3 ?_
 refine ao_end ?_
 refine w_cut_g (fun s' => Ghost prog s' ⟨envL [(3, .pt (encCode p q f)), (4, .pt (encIns x)), (5, .pt (encShape s)), (7, U8 (shapedOf f.regs x s))], fun _ => none, 3⟩) (w_seq_region ?_) fun s' hg => ⟨_, hg, ?_⟩
 ·refine J5 ?_;refine J4 ?_;refine J8 ?_;refine J2 ?_;refine J7 ?_;refine J6 ?_;refine J20 ?_;refine J9 ?_
  refine ao_end (w_if rfl (fun h => w_regJ ?_) fun h => w_skipJ ?_)
  ·have h : s.to = 0 \/ s.to = 1 := by simpa [ib] using h
   have k234 := k234' x.a
   refine J48 ?_;refine J5 ?_;refine J4 ?_;refine cl k234 ?_;refine J3 ?_
   refine ao_end ?_
   show Ghost _ _ _
   refine ghost_of (l := [(3, _), (4, _), (5, _), (7, _)]) ⟨rfl, rfl, rfl, ?_, trivial⟩
   simp only [shapedOf, if_pos h]; rfl
  ·have h : ¬ (s.to = 0 \/ s.to = 1) := by simpa [ib] using h
   show Ghost _ _ _
   refine ghost_of (l := [(3, _), (4, _), (5, _), (7, _)]) ⟨rfl, rfl, rfl, ?_, trivial⟩
   simp only [shapedOf, if_neg h]; rfl
 refine ws ?_;refine J5 ?_;refine J4 ?_;refine J15 ?_;refine J8 ?_;refine J1 ?_
 refine ao_end ?_
 refine w_cut_g (fun s' => Ghost prog s' ⟨envL [(3, .pt (encCode p q f)), (4, .pt (encIns x)), (5, .pt (encShape s)), (7, U8 (shapedOf f.regs x s)), (8, B (shapedArgs f.regs x s))], fun _ => none, 3⟩) (w_seq_region ?_) fun s' hg => ⟨_, hg, ?_⟩
 ·refine J5 ?_;refine J4 ?_
  refine ao_end (w_block (w_seq_region ?_))
  refine J8 ?_;refine J1 ?_
  refine ao_end (w_if rfl (fun h => w_regBJ ?_) fun h => w_seq_region ?_)
  ·have h : s.args = 5 := by simpa using h
   have k96 := k96 (n := x.args.length) (a := 1) (b := 6)
   refine J5 ?_;refine J4 ?_;refine J15 ?_;refine cl k96 ?_;refine J2 ?_;refine J22 ?_;refine J7 ?_;refine J6 ?_;refine gc k237 ?_;refine J9 ?_;refine J1 ?_
   refine ao_end ?_
   refine ghost_of ⟨rfl, rfl, rfl, rfl, ?_, trivial⟩
   show D.s (.bool _) = _
   simp [shapedArgs, h]
  ·have h5 : ¬ s.args = 5 := by simpa using h
   refine J8 ?_;refine J1 ?_
   refine ao_end (w_if rfl (fun h => w_regBJ ?_) fun h => w_skipBJ ?_)
   ·have h : s.args = 6 := by simpa using h
    refine J5 ?_;refine J4 ?_;refine J15 ?_;refine J8 ?_;refine J2 ?_;refine J22 ?_;refine J7 ?_;refine J6 ?_;refine gc k237 ?_;refine J9 ?_;refine J1 ?_
    refine ao_end ?_
    refine ghost_of ⟨rfl, rfl, rfl, rfl, ?_, trivial⟩
    show D.s (.bool _) = _
    simp [shapedArgs, h, ib]
   ·have h6 : ¬ s.args = 6 := by simpa using h
    refine ghost_of ⟨rfl, rfl, rfl, rfl, ?_, trivial⟩
    show D.s (.bool _) = _
    simp [shapedArgs, h5, h6, ib]
 refine ws ?_;refine J48 ?_;refine J5 ?_;refine J4 ?_;refine J5 ?_;refine J4 ?_;refine cl k253 ?_;refine J2 ?_;refine J22 ?_;refine J7 ?_;refine J6 ?_;refine J7 ?_;refine J6 ?_;refine J10 ?_;refine gc k253 ?_;refine J9 ?_;refine J2 ?_;refine J22 ?_;refine J7 ?_;refine J6 ?_;refine J7 ?_;refine J6 ?_;refine J10 ?_;refine gc k253 ?_;refine J9 ?_;refine J2 ?_;refine J27 ?_;refine J9 ?_;refine J2 ?_;refine J7 ?_;refine J6 ?_;refine J7 ?_;refine J6 ?_;refine J7 ?_;refine J6 ?_;refine gc k96 ?_;refine J9 ?_;refine J1 ?_
 refine ao_end (q_ret1 (d := .s (.bool _)) rfl ?_)
 simp [shapedR, Bool.and_assoc]
end
end Go.Proofs.Tryz.K
end
section
open Go Go.Abs Go.Proofs Go.Argus
namespace Go.Proofs.Tryz.K
set_option maxRecDepth 10000
theorem k257 {x : Ins} : PCall prog 257 [.agg (encIns x)] (B (noInsB x)) := by
 have htr : ∀ a ∈ [D.agg (encIns x)], Tr a := .cons (.agg (trs_ins x)) .nil
 refine pcall_of mixed ok257 (by rw [nt257]; rfl) htr (Tr.s _) ?_
 rw [rs257, sk257]
 refine ws ?_;refine J67 ?_;refine J1 ?_;refine er ?_;refine J14 ?_;refine J26 ?_;refine J8 ?_;refine J2 ?_;refine J49 ?_;refine J52 ?_;refine J20 ?_;refine J9 ?_;refine J2 ?_;refine J49 ?_;refine J52 ?_;refine J20 ?_;refine J9 ?_;refine J2 ?_;refine J49 ?_;refine J52 ?_;refine J20 ?_;refine J9 ?_;refine J2 ?_;refine J49 ?_;refine J52 ?_;refine J20 ?_;refine J9 ?_;refine J2 ?_;refine J49 ?_;refine J52 ?_;refine J30 ?_;refine J20 ?_;refine J9 ?_;refine J1 ?_
 refine ao_end (q_ret1 (d := .s (.bool _)) rfl ?_)
 simp only [noInsB, ib]
 cases decide (x.op = 0) <;> cases decide (x.to = 0) <;> cases decide (x.a = 0) <;> cases decide (x.b = 0) <;> cases decide (x.n = 0) <;> rfl
theorem k238 {x : Argus.End} : PCall prog 238 [.agg (encEnd x)] (B (bareB x)) := by
 have htr : ∀ a ∈ [D.agg (encEnd x)], Tr a := .cons (.agg (trs_end x)) .nil
 have k257 := k257 (x := x.ins)
 refine pcall_of mixed ok238 (by rw [nt238]; rfl) htr (Tr.s _) ?_
 rw [rs238, sk238]
 refine ws ?_;refine J68 ?_;refine J1 ?_;refine er ?_;refine J14 ?_;refine J26 ?_;refine J8 ?_;refine J2 ?_;refine J49 ?_;refine J52 ?_;refine J20 ?_;refine J9 ?_;refine J2 ?_;refine J49 ?_;refine J52 ?_;refine J20 ?_;refine J9 ?_;refine J2 ?_;refine J49 ?_;refine J52 ?_;refine J20 ?_;refine J9 ?_;refine J2 ?_;refine J49 ?_;refine J52 ?_;refine J20 ?_;refine J9 ?_;refine J2 ?_;refine J49 ?_;refine J52 ?_
 refine ao_g rfl rfl (e_seql rfl rfl) (fun hc => ⟨ak, trivial⟩) ?_
 refine J9 ?_;refine J2 ?_;refine J49 ?_;refine J52 ?_;refine J20 ?_;refine J9 ?_;refine J2 ?_;refine J49 ?_;refine J52 ?_;refine J30 ?_;refine J20 ?_;refine J9 ?_;refine J2 ?_;refine J49 ?_;refine J52 ?_;refine J30 ?_;refine J20 ?_;refine J9 ?_;refine J2 ?_;refine J49 ?_
 refine ao_g rfl rfl (e_loadRA (vs := encIns _) rfl rfl V.h V.h rfl) (fun hc => ⟨ak, (p_loadRA V.h V.h (by first | (simp; done) | omega | exact Nat.le_of_ble_eq_true rfl))⟩) ?_
 refine gc k257 ?_;refine J9 ?_;refine J1 ?_
 refine ao_end (q_ret1 (d := .s (.bool _)) rfl ?_)
 have : decide (x.name.toList = []) = x.name.toList.isEmpty := by cases x.name.toList <;> rfl
 simp [bareB, ib, Bool.and_assoc, this]
theorem k255 {w v : When} : PCall prog 255 [.agg (encWhen v), .pt (encWhen w)] (B (v.name.toList == w.name.toList)) := by
 have htr : ∀ a ∈ [D.agg (encWhen v), .pt (encWhen w)], Tr a := .cons (.agg (trs_when v)) (.cons (.pt (trs_when w)) .nil)
 refine pcall_of mixed ok255 (by rw [nt255]; rfl) htr (Tr.s _) ?_
 rw [rs255, sk255]
 refine ws ?_
 refine ao_a (e_boxA (cs := encWhen _) rfl) ak (by first | rfl | exact one_code hp1 hq1 | exact oneW _ | exact one_S hd1) ?_
 refine J1 ?_;refine er ?_;refine J14 ?_;refine J26 ?_;refine J5 ?_;refine J4 ?_
 refine ao_p (e_seql rfl rfl) ak trivial ?_
 refine J1 ?_
 exact ao_end (q_ret1 rfl rfl)
section
variable {p q : D} {f : Flow} (hp : Tr p) (hq : Tr q) (hp1 : p.one = true) (hq1 : q.one = true)
include hp hq hp1 hq1
theorem k236 {x : Argus.End} : PCall prog 236 [.agg (encCode p q f), .agg (encEnd x)] (B (handlesB f x)) := by
 have htr : ∀ a ∈ [D.agg (encCode p q f), .agg (encEnd x)], Tr a := .cons (tr_code hp hq f) (.cons (.agg (trs_end x)) .nil)
 refine pcall_real ok236.he htr fun hreal => ?_
 have hlen : x.whens.length <= maxLen := ((hreal _ (List.mem_cons_of_mem _ (List.mem_cons_self ..))).agg (encWhens x.whens) (by simp [encEnd])).sl.1
 unfold maxLen at hlen
 have k233 := @k233 p q f hp hq hp1 hq1
 refine pcall_of mixed ok236 (by rw [nt236]; rfl) htr (Tr.s _) ?_
 rw [rs236, sk236]
 refine w_seq_region_g ?_
 refine J60 ?_;refine J68 ?_;refine J1 ?_
 refine ao_end (w_ghost (ghost_fr [(0, encCode p q f, 133), (1, encEnd x, 69)] eH (l := [(2, .pt (encCode p q f)), (3, .pt (encEnd x))]) eH) (w_assoc (w_seq_region_g ?_)))
 refine J5 ?_;refine J4 ?_;refine J15 ?_;refine J0 ?_
 refine ao_end (w_then (fun s => ∃ n, Ghost prog s ⟨envL [(2, .pt (encCode p q f)), (3, .pt (encEnd x))], fun _ => none, n⟩ /\ ∀ (j : Nat) y, x.whens[j]? = some y -> whenB f x.whens j y = true) (w_range (α := Nat) (fun k => ⟨envL [(2, .pt (encCode p q f)), (3, .pt (encEnd x)), (8, encWhens x.whens), (9, I x.whens.length), (10, I k)], fun _ => none, 2 + k⟩)
  (fun k => k <= x.whens.length /\ ∀ j y, j < k -> x.whens[j]? = some y -> whenB f x.whens j y = true) (fun k => x.whens.length - k) 0 (ghost_of eH) ⟨by omega, fun j y hj => by omega⟩ ?_) ?_)
 ·rintro k ⟨hk, hinv⟩
  refine J16 ?_
  refine ao_end ⟨_, rfl, fun h => ?_, fun h => ?_⟩
  ·have hlt : k < x.whens.length := by simpa using h
   have hx : x.whens[k]? = some x.whens[k] := by simp [hlt]
   generalize x.whens[k] = w at hx
   refine w_seq_region_g ?_
   refine J0 ?_;refine J108 ?_;refine J109 ?_;refine J24 ?_;refine J3 ?_;refine J136 ?_
   refine ao_end (w_ghost (ghost_fr [(2 + k, encWhen w, 199)] ⟨up_same _ _ _, trivial⟩ (l := [(2, .pt (encCode p q f)), (3, .pt (encEnd x)), (5, I k), (6, .pt (encWhen w)), (8, encWhens x.whens), (9, I x.whens.length), (10, I k)]) ⟨rfl, rfl, rfl, fz_rp (sz := prog.cellsOf 199), rfl, rfl, rfl, trivial⟩) (w_seq_region ?_))
   have k194 := k194 (s := w.name)
   have k254 := k254 (l := x.whens.take k) (g := 255) (fs := []) (cs := [.pt (encWhen w)]) (p := fun v => v.name.toList == w.name.toList) (.fn (by simp) (.cons (.pt (trs_when w)) .nil)) (fun v _ => k255)
   unfold encWhens at k254
   rw [<- sl_take len_enc199 hk] at k254
   refine J5 ?_;refine J4 ?_;refine cl k194 ?_;refine J32 ?_;refine J2 ?_;refine J22 ?_;refine J7 ?_;refine J6 ?_;refine gc k233 ?_;refine J33 ?_;refine J9 ?_;refine J2 ?_;refine J7 ?_;refine J6 ?_;refine J10 ?_
   refine ao_g rfl rfl (e_slice rfl V.h V.h rfl rfl rfl) (fun hc => ⟨ak, ⟨V.h, by omega, by omega, by omega⟩⟩) ?_
   refine ao_g rfl rfl (e_func rfl rfl) (fun hc => ⟨ak, trivial⟩) ?_
   refine gc k254 ?_;refine J9 ?_
   have hb : ((isName w.name && (blockR f w.to && !(x.whens.take k).any fun v => v.name.toList == w.name.toList))) = whenB f x.whens k w := rfl
   refine ao_end (w_if rfl (fun hp => ?_) fun hp => ?_)
   ·refine ws ?_;refine J1 ?_
    refine ao_end (w_ret (j_body (j_seq (q_ret1 (d := .s (.bool _)) rfl ?_))))
    have hw : whenB f x.whens k w = false := by
     rw [<- hb]; simp only [blockR]
     revert hp
     generalize isName w.name = a
     generalize inR w.to 0 (f.blocks.length - 1) = b
     generalize (List.any _ _) = c
     cases a <;> cases b <;> cases c <;> simp
    simp [handlesB, whensB_false hx hw]
   ·refine w_end ?_
    have hw : whenB f x.whens k w = true := by
     rw [<- hb]; simp only [blockR]
     revert hp
     generalize isName w.name = a
     generalize inR w.to 0 (f.blocks.length - 1) = b
     generalize (List.any _ _) = c
     cases a <;> cases b <;> cases c <;> simp
    refine J11 ?_;refine J0 ?_
    refine ao_end (next_of (k + 1) (ghost_of eH) ⟨by omega, fun j y hj hy => ?_⟩ oG)
    by_cases e : j = k
    ·subst e; rw [hx] at hy; cases hy; exact hw
    ·exact hinv j y oG hy
  ·have hge : ¬ k < x.whens.length := by simpa using h
   exact ⟨2 + k, .forget _ _ _ _ fun t => envL_of (l := [(2, .pt (encCode p q f)), (3, .pt (encEnd x))]) ⟨rfl, rfl, trivial⟩ t, fun j y hy => hinv j y (by have := (List.getElem?_eq_some_iff.1 hy).1; omega) hy⟩
 ·rintro s ⟨n, hg, hall⟩
  refine ⟨_, hg, w_seq_region ?_⟩
  refine J5 ?_;refine J4 ?_;refine J15 ?_
  refine ao_p (e_leq rfl rfl) ak rfl ?_
  refine J2 ?_;refine J7 ?_;refine J6 ?_;refine J20 ?_;refine J27 ?_;refine J22 ?_;refine J7 ?_;refine J6 ?_;refine gc k233 ?_;refine J63 ?_;refine J9 ?_;refine J1 ?_
  refine ao_end (q_ret1 (d := .s (.bool _)) rfl ?_)
  have hws := whensB_true hall
  simp [handlesB, blockR, hws, ib]
end
end Go.Proofs.Tryz.K
end
section
open Go Go.Abs Go.Proofs Go.Argus
namespace Go.Proofs.Tryz.K
set_option maxRecDepth 10000
abbrev P0 : D := .im (imOf plainT)
abbrev Q0 : D := .im (imOf triesT)
theorem k166 : PCall prog 166 [] (.tup [P0, Q0]) := by
 refine pcall_of mixed ok166 (by rw [nt166]; rfl) Tr.nil (.tup (.cons (tr_im _) (.cons (tr_im _) .nil))) ?_
 rw [rs166, sk166]
 refine ws ?_
 refine ao_p (e_assign (v := .s (.map none)) rfl) ak trivial ?_
 refine ao_p (e_assign (v := .s (.map none)) rfl) ak trivial ?_
 refine er ?_;refine J110 ?_;refine J36 ?_;refine J37 ?_;refine J36 ?_;refine J37 ?_;refine J36 ?_;refine J37 ?_;refine J36 ?_;refine J37 ?_;refine J36 ?_;refine J37 ?_;refine J36 ?_;refine J37 ?_;refine J36 ?_;refine J37 ?_;refine J36 ?_;refine J37 ?_;refine J36 ?_;refine J37 ?_;refine J36 ?_;refine J37 ?_;refine J36 ?_;refine J37 ?_;refine J36 ?_;refine J37 ?_;refine J36 ?_;refine J37 ?_;refine J36 ?_;refine J37 ?_;refine J36 ?_;refine J37 ?_;refine J81 ?_;refine J95 ?_;refine er ?_;refine J110 ?_;refine J36 ?_;refine J37 ?_;refine J36 ?_;refine J37 ?_;refine J36 ?_;refine J37 ?_;refine J36 ?_;refine J37 ?_;refine J36 ?_;refine J37 ?_;refine J36 ?_;refine J37 ?_;refine J36 ?_;refine J37 ?_;refine J36 ?_;refine J37 ?_;refine J36 ?_;refine J37 ?_;refine J81 ?_;refine J95 ?_
 refine ao_end (w_seq_region_g ?_)
 refine J81 ?_;refine J81 ?_;refine J95 ?_;refine J95 ?_
 refine ao_end (w_ghost (ghost_fm [(0, imOf plainT), (1, imOf triesT)] eH (l := [(0, P0), (1, Q0)]) eH) ?_)
 exact q_ret2 rfl rfl rfl
abbrev codeD (f : Flow) : D := .agg (encCode P0 Q0 f)
theorem k189 {f : Flow} : PCall prog 189 [.agg (encFlow f)] (codeD f) := by
 have htr : ∀ a ∈ [D.agg (encFlow f)], Tr a := .cons (.agg (trs_flow f)) .nil
 refine pcall_of mixed ok189 (by rw [nt189]; rfl) htr (tr_code (tr_im _) (tr_im _) f) ?_
 rw [rs189, sk189]
 refine ws ?_;refine J43 ?_;refine J24 ?_;refine er ?_;refine cl k166 ?_;refine J28 ?_
 refine ao_p (e_extract (v := .im _) rfl rfl) ak (by first | decide | simp) ?_
 refine ao_p (e_extract (v := .im _) rfl rfl) ak (by first | decide | simp) ?_
 refine ao_p (e_assign (v := .im _) rfl) ak trivial ?_
 refine ao_p (e_assign (v := .im _) rfl) ak trivial ?_
 refine er ?_
 refine ao_p (e_loadRA (vs := encFlow _) rfl rfl V.h V.h rfl) ak (p_loadRA V.h V.h (by first | (simp; done) | omega | exact Nat.le_of_ble_eq_true rfl)) ?_
 refine ao_p (e_move (v := .im _) rfl) ak trivial ?_
 refine ao_p (e_move (v := .im _) rfl) ak trivial ?_
 refine ao_p (e_build2 (cs := encCode _ _ _) V.h V.h V.h rfl rfl) ak ⟨V.h, V.h⟩ ?_
 refine ao_w (e_storeA (cs' := encCode _ _ _) rfl rfl rfl rfl) ak (p_store V.h V.h (by first | (simp; done) | exact ⟨rfl, Nat.le_of_ble_eq_true rfl⟩ | (simp; omega)) (by rfl)) ?_
 refine ao_end (q_cell (resD_cellA rfl rfl a133 c133 rfl t133 (by simp)) ?_)
 rfl
end Go.Proofs.Tryz.K
end
section
open Go Go.Abs Go.Proofs Go.Argus
namespace Go.Proofs.Tryz.K
set_option maxRecDepth 10000
theorem tr_P0 : Tr P0 := tr_im _
theorem tr_Q0 : Tr Q0 := tr_im _
section
variable {p q : D} {f : Flow} (hp : Tr p) (hq : Tr q) (hp1 : p.one = true) (hq1 : q.one = true)
include hp hq hp1 hq1
theorem k240 {r kd : Int} : PCall prog 240 [I r, .pt (encCode p q f), .pt [U8 kd]] (B !(eqb (kindR f.regs r) kd)) := by
 have htr : ∀ a ∈ [I r, .pt (encCode p q f), .pt [U8 kd]], Tr a := .cons (.s _) (.cons (.pt (trs_code hp hq f)) (.cons (.pt (.cons (.s _) .nil)) .nil))
 have k234 := k234 (f := f) (r := r) hp hq hp1 hq1
 refine pcall_of mixed ok240 (by rw [nt240]; rfl) htr (Tr.s _) ?_
 rw [rs240, sk240]
 refine ws ?_;refine J1 ?_
 refine ao_end (w_seq_draw di_r240_1 ?_)
 refine J48 ?_;refine J0 ?_;refine cl k234 ?_;refine J4 ?_;refine J35 ?_;refine J1 ?_
 refine ao_endc (by simp [apartT]) ?_
 refine q_ret1 (d := .s (.bool _)) rfl ?_
 rfl
end
theorem k196 {f : Flow} {b ahead : Int} {x : Ins} {phis : Bool} : PCall prog 196 [codeD f, I b, .agg (encIns x), B phis, I ahead] (B (rightB f b x phis ahead)) := by
 have htr : ∀ a ∈ [codeD f, I b, .agg (encIns x), B phis, I ahead], Tr a := .cons (tr_code tr_P0 tr_Q0 f) (.cons (.s _) (.cons (.agg (trs_ins x)) (.cons (.s _) (.cons (.s _) .nil))))
 have k234 := @k234 P0 Q0 f tr_P0 tr_Q0 rfl rfl
 have k239 := @k239 P0 Q0 f tr_P0 tr_Q0 rfl rfl
 have k237 := @k237 P0 Q0 f tr_P0 tr_Q0 rfl rfl
 have k235 := @k235 P0 Q0 f tr_P0 tr_Q0 rfl rfl
 refine pcall_of mixed ok196 (by rw [nt196]; rfl) htr (Tr.s _) ?_
 rw [rs196, sk196]
 refine w_seq_region_g ?_
 refine J60 ?_;refine J67 ?_;refine J1 ?_
 refine ao_end (w_ghost (ghost_fr [(0, encCode P0 Q0 f, 133), (1, encIns x, 66)] eH (l := [(1, I b), (3, B phis), (4, I ahead), (5, .pt (encCode P0 Q0 f)), (7, .pt (encIns x))]) eH) (w_assoc (w_seq_region ?_)))
 refine J5 ?_;refine J4 ?_
 refine ao_end (w_seq_blk (w_seq_region ?_))
 refine J8 ?_;refine J1 ?_
 refine ao_end (w_if rfl (fun h0 => ?_) fun h0 => ?_)
 ·have h0 : x.op = 16 := by simpa using h0
  refine ws ?_;refine J5 ?_;refine J4 ?_;refine J8 ?_;refine J2 ?_;refine J22 ?_;refine J7 ?_;refine J6 ?_;refine gc k234 ?_;refine J20 ?_;refine J9 ?_;refine J2 ?_;refine J7 ?_;refine J6 ?_;refine J20 ?_;refine J9 ?_;refine J2 ?_;refine J7 ?_;refine J6 ?_;refine J20 ?_;refine J9 ?_;refine J2 ?_;refine J7 ?_;refine J6 ?_;refine J30 ?_;refine J20 ?_;refine J9 ?_;refine J1 ?_
  refine ao_end (w_ret (j_block (j_seq (q_ret1 (d := .s (.bool _)) rfl ?_))))
  simp [rightB, h0, eqb, noArgs, ib, Bool.and_assoc]
 have h0 : ¬ x.op = 16 := by simpa using h0
 refine ws ?_;refine J8 ?_;refine J1 ?_
 refine ao_end (w_if rfl (fun h1 => ?_) fun h1 => ?_)
 ·have h1 : x.op = 17 := by simpa using h1
  refine ws ?_;refine J5 ?_;refine J4 ?_;refine J8 ?_;refine J2 ?_;refine J7 ?_;refine J6 ?_;refine J20 ?_;refine J9 ?_;refine J2 ?_;refine J7 ?_;refine J6 ?_;refine J30 ?_;refine J20 ?_;refine J9 ?_;refine J2 ?_;refine J22 ?_;refine J7 ?_;refine J6 ?_;refine J7 ?_;refine J6 ?_;refine gc k239 ?_;refine J9 ?_;refine J1 ?_
  refine ao_end (w_ret (j_block (j_seq (q_ret1 (d := .s (.bool _)) rfl ?_))))
  simp [rightB, h1, eqb, noArgs, ib, Bool.and_assoc]
 have h1 : ¬ x.op = 17 := by simpa using h1
 refine ws ?_;refine J8 ?_;refine J1 ?_
 refine ao_end (w_if rfl (fun h2 => ?_) fun h2 => ?_)
 ·have h2 : x.op = 18 := by simpa using h2
  refine ws ?_;refine J5 ?_;refine J4 ?_;refine J8 ?_;refine J2 ?_;refine J7 ?_;refine J6 ?_;refine J20 ?_;refine J9 ?_;refine J2 ?_;refine J7 ?_;refine J6 ?_;refine J30 ?_;refine J20 ?_;refine J9 ?_;refine J2 ?_;refine J22 ?_;refine J7 ?_;refine J6 ?_;refine J7 ?_;refine J6 ?_;refine gc k239 ?_;refine J9 ?_;refine J1 ?_
  refine ao_end (w_ret (j_block (j_seq (q_ret1 (d := .s (.bool _)) rfl ?_))))
  simp [rightB, h2, eqb, noArgs, ib, Bool.and_assoc]
 have h2 : ¬ x.op = 18 := by simpa using h2
 refine ws ?_;refine J8 ?_;refine J1 ?_
 refine ao_end (w_if rfl (fun h3 => ?_) fun h3 => ?_)
 ·have h3 : x.op = 19 := by simpa using h3
  refine w_seq_region_g ?_
  refine J48 ?_;refine J5 ?_;refine J4 ?_;refine cl k234 ?_;refine J24 ?_
  refine ao_w (e_store1 (d := .s (.int _ _)) (cs' := [_]) rfl rfl rfl rfl rfl) ak (p_store V.h V.h (by first | (simp; done) | exact ⟨rfl, Nat.le_of_ble_eq_true rfl⟩ | (simp; omega)) rfl) ?_
  refine ao_end (w_ghost (ghost_fr [(2, [U8 (kindR f.regs x.to)], 5)] eH (l := [(1, I b), (3, B phis), (4, I ahead), (5, .pt (encCode P0 Q0 f)), (7, .pt (encIns x)), (11, .pt [U8 (kindR f.regs x.to)])]) eH) (w_seq_region ?_))
  have k119 := k119 (l := x.args) (g := 240) (fs := []) (cs := [.pt (encCode P0 Q0 f), .pt [U8 (kindR f.regs x.to)]]) (p := fun r => !(eqb (kindR f.regs r) (kindR f.regs x.to))) (.fn (by simp) (.cons (.pt (trs_code tr_P0 tr_Q0 f)) (.cons (.pt (.cons (.s _) .nil)) .nil))) (fun r _ => k240 tr_P0 tr_Q0 rfl rfl)
  refine J5 ?_;refine J4 ?_;refine J66 ?_;refine cl k119 ?_;refine J1 ?_;refine er ?_
  by_cases hb : phis = true /\ 0 < b
  ·obtain ⟨rfl, hb⟩ := hb
   have kgtr : decide (0 < b) = true := by simpa using hb
   have k237 := k237 (l := [x.to])
   have ks237 : ∀ {m : Mem}, m 3 = some (.cells [I x.to] 3) -> Sns prog [3] m [codeD f, .rs 3 0 1] [codeD f, encInts [x.to]] := fun hm => ⟨sn_tr (tr_code tr_P0 tr_Q0 f), sn_rs hm (by simp) (by rw [c3]; rfl) (.cons (.s _) .nil), trivial⟩
   refine J2 ?_;refine J2 ?_;refine J10 ?_;refine J82 ?_;refine J19 ?_;refine J2 ?_;refine J22 ?_;refine J7 ?_;refine J6 ?_;refine J137 ?_
   refine ao_gsc k237 rfl rfl rfl rfl (ks237 rfl) ak ?_
   refine J19 ?_;refine J2 ?_;refine J7 ?_;refine J6 ?_;refine J20 ?_;refine J9 ?_;refine J2 ?_;refine J7 ?_;refine J6 ?_;refine J20 ?_;refine J9 ?_;refine J2 ?_;refine J7 ?_;refine J6 ?_;refine J20 ?_;refine J9 ?_;refine J2 ?_;refine J7 ?_;refine J6 ?_;refine J30 ?_;refine J10 ?_;refine J20 ?_;refine J9 ?_;refine J2 ?_;refine J27 ?_;refine J33 ?_;refine J9 ?_;refine J1 ?_
   refine ao_end (w_ret (j_block (j_seq (q_ret1 (d := .s (.bool _)) rfl ?_))))
   simp [rightB, h3, hb, eqb, noArgs, ib, Bool.and_assoc, valuesR]
  ·have hf : rightB f b x phis ahead = false := by
    cases phis with
    | false => simp [rightB, h3]
    | true => simp [rightB, h3, show ¬ 0 < b by simpa using hb]
   have hf : D.s (.bool false) = B (rightB f b x phis ahead) := by rw [hf]
   cases phis with
   | false =>
    refine J2 ?_;refine J2 ?_;refine z fun _ _ => ?_;refine z fun _ _ => ?_;refine J13 ?_;refine J2 ?_;refine z fun _ _ => ?_;refine z fun _ _ => ?_;refine z fun _ _ => ?_;refine z fun _ _ => ?_;refine z fun _ _ => ?_;refine J13 ?_;refine J2 ?_;refine z fun _ _ => ?_;refine z fun _ _ => ?_;refine z fun _ _ => ?_;refine J13 ?_;refine J2 ?_;refine z fun _ _ => ?_;refine z fun _ _ => ?_;refine z fun _ _ => ?_;refine J13 ?_;refine J2 ?_;refine z fun _ _ => ?_;refine z fun _ _ => ?_;refine z fun _ _ => ?_;refine J13 ?_;refine J2 ?_;refine z fun _ _ => ?_;refine z fun _ _ => ?_;refine z fun _ _ => ?_;refine z fun _ _ => ?_;refine z fun _ _ => ?_;refine J13 ?_;refine J2 ?_;refine z fun _ _ => ?_;refine z fun _ _ => ?_;refine J13 ?_;refine J1 ?_
    exact ao_end (w_ret (j_block (j_seq (q_ret1 (d := .s (.bool _)) rfl hf))))
   | true =>
    have kgtr : decide (0 < b) = false := by simpa using hb
    refine J2 ?_;refine J2 ?_;refine J10 ?_;refine J82 ?_;refine J19 ?_;refine J2 ?_;refine z fun _ _ => ?_;refine z fun _ _ => ?_;refine z fun _ _ => ?_;refine z fun _ _ => ?_;refine z fun _ _ => ?_;refine J13 ?_;refine J2 ?_;refine z fun _ _ => ?_;refine z fun _ _ => ?_;refine z fun _ _ => ?_;refine J13 ?_;refine J2 ?_;refine z fun _ _ => ?_;refine z fun _ _ => ?_;refine z fun _ _ => ?_;refine J13 ?_;refine J2 ?_;refine z fun _ _ => ?_;refine z fun _ _ => ?_;refine z fun _ _ => ?_;refine J13 ?_;refine J2 ?_;refine z fun _ _ => ?_;refine z fun _ _ => ?_;refine z fun _ _ => ?_;refine z fun _ _ => ?_;refine z fun _ _ => ?_;refine J13 ?_;refine J2 ?_;refine z fun _ _ => ?_;refine z fun _ _ => ?_;refine J13 ?_;refine J1 ?_
    exact ao_end (w_ret (j_block (j_seq (q_ret1 (d := .s (.bool _)) rfl hf))))
 have h3 : ¬ x.op = 19 := by simpa using h3
 refine w_endB (w_seq_region ?_)
 have kg : gotD prog 131 true (lookD (.int .u8 x.op) (imOf plainT)) = .tup [.agg (encShape ((shapeAt plainT x.op).getD noShape)), .s (.bool (shapeAt plainT x.op).isSome)] := got_im rfl _ _ (by rw [ml131]; unfold zeroD; rw [a205, z205]; rfl)
 have kg2 := keys_im (P := prog) (kt := 5) u5 plainT
 refine J5 ?_;refine J4 ?_;refine J5 ?_;refine J4 ?_
 refine ao_p (e_lookupI rfl rfl V.h kg) ak ⟨V.h, by kernel_rfl, kg2⟩ ?_
 refine J28 ?_
 refine ao_p (e_extract (v := .agg (encShape _)) rfl rfl) ak (by first | decide | simp) ?_
 refine J39 ?_;refine J24 ?_
 refine ao_w (e_storeA (cs' := encShape _) rfl rfl rfl rfl) ak (p_store V.h V.h (by first | (simp; done) | exact ⟨rfl, Nat.le_of_ble_eq_true rfl⟩ | (simp; omega)) (by rfl)) ?_
 refine J1 ?_;refine er ?_;refine J2 ?_;refine J2 ?_;refine J22 ?_
 refine ao_g rfl rfl (e_loadA (vs := encIns _) rfl V.h V.h rfl) (fun hc => ⟨ak, (p_loadA V.h V.h (by simp))⟩) ?_
 refine ao_g rfl rfl (e_loadRA (vs := encShape _) rfl rfl V.h V.h rfl) (fun hc => ⟨ak, (p_loadRA V.h V.h (by first | (simp; done) | omega | exact Nat.le_of_ble_eq_true rfl))⟩) ?_
 refine gc k235 ?_;refine J9 ?_;refine J1 ?_
 refine ao_end (q_ret1 (d := .s (.bool _)) rfl ?_)
 simp [rightB, h0, h1, h2, h3]
end Go.Proofs.Tryz.K
end
