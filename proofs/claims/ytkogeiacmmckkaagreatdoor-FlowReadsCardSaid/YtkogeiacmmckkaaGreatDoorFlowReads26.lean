/- Part 26 of the proof; the last part says what is proved. -/
import Derived.Test.YtkogeiacmmckkaaGreatDoorFlowReads25
set_option linter.all false
namespace Go.Proofs.Tryz.K
open Go.Abs
noncomputable def body3:Code:=(Tryz.f3.body).getD .skip
theorem ok3:FnOk Tryz.prog 3 Tryz.f3 body3:=⟨by kernel_rfl,by kernel_rfl,by kernel_rfl,by kernel_rfl⟩
theorem rs3: Tryz.f3.results.toList=[.tmp 2]:=by kernel_rfl
theorem nt3: Tryz.f3.ntmps=15:=by kernel_rfl
noncomputable def body4:Code:=(Tryz.f4.body).getD .skip
theorem ok4:FnOk Tryz.prog 4 Tryz.f4 body4:=⟨by kernel_rfl,by kernel_rfl,by kernel_rfl,by kernel_rfl⟩
theorem rs4: Tryz.f4.results.toList=[.tmp 2]:=by kernel_rfl
theorem nt4: Tryz.f4.ntmps=61:=by kernel_rfl
noncomputable def body5:Code:=(Tryz.f5.body).getD .skip
theorem ok5:FnOk Tryz.prog 5 Tryz.f5 body5:=⟨by kernel_rfl,by kernel_rfl,by kernel_rfl,by kernel_rfl⟩
theorem rs5: Tryz.f5.results.toList=[.tmp 8]:=by kernel_rfl
theorem nt5: Tryz.f5.ntmps=57:=by kernel_rfl
noncomputable def body6:Code:=(Tryz.f6.body).getD .skip
theorem ok6:FnOk Tryz.prog 6 Tryz.f6 body6:=⟨by kernel_rfl,by kernel_rfl,by kernel_rfl,by kernel_rfl⟩
theorem rs6: Tryz.f6.results.toList=[.tmp 4]:=by kernel_rfl
theorem nt6: Tryz.f6.ntmps=52:=by kernel_rfl
noncomputable def body7:Code:=(Tryz.f7.body).getD .skip
theorem ok7:FnOk Tryz.prog 7 Tryz.f7 body7:=⟨by kernel_rfl,by kernel_rfl,by kernel_rfl,by kernel_rfl⟩
theorem rs7: Tryz.f7.results.toList=[.tmp 10]:=by kernel_rfl
theorem nt7: Tryz.f7.ntmps=117:=by kernel_rfl
noncomputable def body8:Code:=(Tryz.f8.body).getD .skip
theorem ok8:FnOk Tryz.prog 8 Tryz.f8 body8:=⟨by kernel_rfl,by kernel_rfl,by kernel_rfl,by kernel_rfl⟩
theorem rs8: Tryz.f8.results.toList=[.tmp 4]:=by kernel_rfl
theorem nt8: Tryz.f8.ntmps=110:=by kernel_rfl
noncomputable def body9:Code:=(Tryz.f9.body).getD .skip
theorem ok9:FnOk Tryz.prog 9 Tryz.f9 body9:=⟨by kernel_rfl,by kernel_rfl,by kernel_rfl,by kernel_rfl⟩
theorem rs9: Tryz.f9.results.toList=[.tmp 10]:=by kernel_rfl
theorem nt9: Tryz.f9.ntmps=205:=by kernel_rfl
noncomputable def body10:Code:=(Tryz.f10.body).getD .skip
theorem ok10:FnOk Tryz.prog 10 Tryz.f10 body10:=⟨by kernel_rfl,by kernel_rfl,by kernel_rfl,by kernel_rfl⟩
theorem rs10: Tryz.f10.results.toList=[.tmp 4]:=by kernel_rfl
theorem nt10: Tryz.f10.ntmps=209:=by kernel_rfl
noncomputable def body11:Code:=(Tryz.f11.body).getD .skip
theorem ok11:FnOk Tryz.prog 11 Tryz.f11 body11:=⟨by kernel_rfl,by kernel_rfl,by kernel_rfl,by kernel_rfl⟩
theorem rs11: Tryz.f11.results.toList=[.tmp 6]:=by kernel_rfl
theorem nt11: Tryz.f11.ntmps=74:=by kernel_rfl
noncomputable def body12:Code:=(Tryz.f12.body).getD .skip
theorem ok12:FnOk Tryz.prog 12 Tryz.f12 body12:=⟨by kernel_rfl,by kernel_rfl,by kernel_rfl,by kernel_rfl⟩
theorem rs12: Tryz.f12.results.toList=[.tmp 14]:=by kernel_rfl
theorem nt12: Tryz.f12.ntmps=181:=by kernel_rfl
noncomputable def body13:Code:=(Tryz.f13.body).getD .skip
theorem ok13:FnOk Tryz.prog 13 Tryz.f13 body13:=⟨by kernel_rfl,by kernel_rfl,by kernel_rfl,by kernel_rfl⟩
theorem rs13: Tryz.f13.results.toList=[.tmp 4]:=by kernel_rfl
theorem nt13: Tryz.f13.ntmps=95:=by kernel_rfl
noncomputable def body14:Code:=(Tryz.f14.body).getD .skip
theorem ok14:FnOk Tryz.prog 14 Tryz.f14 body14:=⟨by kernel_rfl,by kernel_rfl,by kernel_rfl,by kernel_rfl⟩
theorem rs14: Tryz.f14.results.toList=[.tmp 2]:=by kernel_rfl
theorem nt14: Tryz.f14.ntmps=100:=by kernel_rfl
noncomputable def body15:Code:=(Tryz.f15.body).getD .skip
theorem ok15:FnOk Tryz.prog 15 Tryz.f15 body15:=⟨by kernel_rfl,by kernel_rfl,by kernel_rfl,by kernel_rfl⟩
theorem rs15: Tryz.f15.results.toList=[.tmp 0]:=by kernel_rfl
theorem nt15: Tryz.f15.ntmps=150:=by kernel_rfl
noncomputable def body16:Code:=(Tryz.f16.body).getD .skip
theorem ok16:FnOk Tryz.prog 16 Tryz.f16 body16:=⟨by kernel_rfl,by kernel_rfl,by kernel_rfl,by kernel_rfl⟩
theorem rs16: Tryz.f16.results.toList=[.tmp 2]:=by kernel_rfl
theorem nt16: Tryz.f16.ntmps=12:=by kernel_rfl
noncomputable def body17:Code:=(Tryz.f17.body).getD .skip
theorem ok17:FnOk Tryz.prog 17 Tryz.f17 body17:=⟨by kernel_rfl,by kernel_rfl,by kernel_rfl,by kernel_rfl⟩
theorem rs17: Tryz.f17.results.toList=[.tmp 2]:=by kernel_rfl
theorem nt17: Tryz.f17.ntmps=147:=by kernel_rfl
noncomputable def body18:Code:=(Tryz.f18.body).getD .skip
theorem ok18:FnOk Tryz.prog 18 Tryz.f18 body18:=⟨by kernel_rfl,by kernel_rfl,by kernel_rfl,by kernel_rfl⟩
theorem rs18: Tryz.f18.results.toList=[.tmp 2]:=by kernel_rfl
theorem nt18: Tryz.f18.ntmps=11:=by kernel_rfl
noncomputable def body19:Code:=(Tryz.f19.body).getD .skip
theorem ok19:FnOk Tryz.prog 19 Tryz.f19 body19:=⟨by kernel_rfl,by kernel_rfl,by kernel_rfl,by kernel_rfl⟩
theorem rs19: Tryz.f19.results.toList=[.tmp 2,.tmp 3]:=by kernel_rfl
theorem nt19: Tryz.f19.ntmps=54:=by kernel_rfl
noncomputable def body20:Code:=(Tryz.f20.body).getD .skip
theorem ok20:FnOk Tryz.prog 20 Tryz.f20 body20:=⟨by kernel_rfl,by kernel_rfl,by kernel_rfl,by kernel_rfl⟩
theorem rs20: Tryz.f20.results.toList=[.tmp 2,.tmp 3]:=by kernel_rfl
theorem nt20: Tryz.f20.ntmps=58:=by kernel_rfl
noncomputable def body21:Code:=(Tryz.f21.body).getD .skip
theorem ok21:FnOk Tryz.prog 21 Tryz.f21 body21:=⟨by kernel_rfl,by kernel_rfl,by kernel_rfl,by kernel_rfl⟩
theorem rs21: Tryz.f21.results.toList=[.cell 8 39,.cell 9 29]:=by kernel_rfl
theorem nt21: Tryz.f21.ntmps=102:=by kernel_rfl
noncomputable def body22:Code:=(Tryz.f22.body).getD .skip
theorem ok22:FnOk Tryz.prog 22 Tryz.f22 body22:=⟨by kernel_rfl,by kernel_rfl,by kernel_rfl,by kernel_rfl⟩
theorem rs22: Tryz.f22.results.toList=[.cell 8 39,.tmp 9]:=by kernel_rfl
theorem nt22: Tryz.f22.ntmps=118:=by kernel_rfl
noncomputable def body23:Code:=(Tryz.f23.body).getD .skip
theorem ok23:FnOk Tryz.prog 23 Tryz.f23 body23:=⟨by kernel_rfl,by kernel_rfl,by kernel_rfl,by kernel_rfl⟩
theorem rs23: Tryz.f23.results.toList=[.tmp 4]:=by kernel_rfl
theorem nt23: Tryz.f23.ntmps=38:=by kernel_rfl
noncomputable def body24:Code:=(Tryz.f24.body).getD .skip
theorem ok24:FnOk Tryz.prog 24 Tryz.f24 body24:=⟨by kernel_rfl,by kernel_rfl,by kernel_rfl,by kernel_rfl⟩
theorem rs24: Tryz.f24.results.toList=[.tmp 4]:=by kernel_rfl
theorem nt24: Tryz.f24.ntmps=26:=by kernel_rfl
noncomputable def body25:Code:=(Tryz.f25.body).getD .skip
theorem ok25:FnOk Tryz.prog 25 Tryz.f25 body25:=⟨by kernel_rfl,by kernel_rfl,by kernel_rfl,by kernel_rfl⟩
theorem rs25: Tryz.f25.results.toList=[.tmp 2]:=by kernel_rfl
theorem nt25: Tryz.f25.ntmps=52:=by kernel_rfl
noncomputable def body26:Code:=(Tryz.f26.body).getD .skip
theorem ok26:FnOk Tryz.prog 26 Tryz.f26 body26:=⟨by kernel_rfl,by kernel_rfl,by kernel_rfl,by kernel_rfl⟩
theorem rs26: Tryz.f26.results.toList=[.tmp 2]:=by kernel_rfl
theorem nt26: Tryz.f26.ntmps=53:=by kernel_rfl
noncomputable def body27:Code:=(Tryz.f27.body).getD .skip
theorem ok27:FnOk Tryz.prog 27 Tryz.f27 body27:=⟨by kernel_rfl,by kernel_rfl,by kernel_rfl,by kernel_rfl⟩
theorem rs27: Tryz.f27.results.toList=[.tmp 2]:=by kernel_rfl
theorem nt27: Tryz.f27.ntmps=33:=by kernel_rfl
noncomputable def body28:Code:=(Tryz.f28.body).getD .skip
theorem ok28:FnOk Tryz.prog 28 Tryz.f28 body28:=⟨by kernel_rfl,by kernel_rfl,by kernel_rfl,by kernel_rfl⟩
theorem rs28: Tryz.f28.results.toList=[.tmp 2]:=by kernel_rfl
theorem nt28: Tryz.f28.ntmps=30:=by kernel_rfl
noncomputable def body29:Code:=(Tryz.f29.body).getD .skip
theorem ok29:FnOk Tryz.prog 29 Tryz.f29 body29:=⟨by kernel_rfl,by kernel_rfl,by kernel_rfl,by kernel_rfl⟩
theorem rs29: Tryz.f29.results.toList=[.tmp 2]:=by kernel_rfl
theorem nt29: Tryz.f29.ntmps=31:=by kernel_rfl
noncomputable def body30:Code:=(Tryz.f30.body).getD .skip
theorem ok30:FnOk Tryz.prog 30 Tryz.f30 body30:=⟨by kernel_rfl,by kernel_rfl,by kernel_rfl,by kernel_rfl⟩
theorem rs30: Tryz.f30.results.toList=[.tmp 2]:=by kernel_rfl
theorem nt30: Tryz.f30.ntmps=32:=by kernel_rfl
noncomputable def body31:Code:=(Tryz.f31.body).getD .skip
theorem ok31:FnOk Tryz.prog 31 Tryz.f31 body31:=⟨by kernel_rfl,by kernel_rfl,by kernel_rfl,by kernel_rfl⟩
theorem rs31: Tryz.f31.results.toList=[.tmp 2]:=by kernel_rfl
theorem nt31: Tryz.f31.ntmps=19:=by kernel_rfl
noncomputable def body32:Code:=(Tryz.f32.body).getD .skip
theorem ok32:FnOk Tryz.prog 32 Tryz.f32 body32:=⟨by kernel_rfl,by kernel_rfl,by kernel_rfl,by kernel_rfl⟩
theorem rs32: Tryz.f32.results.toList=[.tmp 2]:=by kernel_rfl
theorem nt32: Tryz.f32.ntmps=19:=by kernel_rfl
noncomputable def body33:Code:=(Tryz.f33.body).getD .skip
theorem ok33:FnOk Tryz.prog 33 Tryz.f33 body33:=⟨by kernel_rfl,by kernel_rfl,by kernel_rfl,by kernel_rfl⟩
theorem rs33: Tryz.f33.results.toList=[.tmp 4,.tmp 5]:=by kernel_rfl
theorem nt33: Tryz.f33.ntmps=27:=by kernel_rfl
noncomputable def body34:Code:=(Tryz.f34.body).getD .skip
theorem ok34:FnOk Tryz.prog 34 Tryz.f34 body34:=⟨by kernel_rfl,by kernel_rfl,by kernel_rfl,by kernel_rfl⟩
theorem rs34: Tryz.f34.results.toList=[.tmp 4,.tmp 5]:=by kernel_rfl
theorem nt34: Tryz.f34.ntmps=16:=by kernel_rfl
noncomputable def body35:Code:=(Tryz.f35.body).getD .skip
theorem ok35:FnOk Tryz.prog 35 Tryz.f35 body35:=⟨by kernel_rfl,by kernel_rfl,by kernel_rfl,by kernel_rfl⟩
theorem rs35: Tryz.f35.results.toList=[.tmp 4,.tmp 5]:=by kernel_rfl
theorem nt35: Tryz.f35.ntmps=25:=by kernel_rfl
noncomputable def body36:Code:=(Tryz.f36.body).getD .skip
theorem ok36:FnOk Tryz.prog 36 Tryz.f36 body36:=⟨by kernel_rfl,by kernel_rfl,by kernel_rfl,by kernel_rfl⟩
theorem rs36: Tryz.f36.results.toList=[.tmp 4,.tmp 5]:=by kernel_rfl
theorem nt36: Tryz.f36.ntmps=18:=by kernel_rfl
noncomputable def body37:Code:=(Tryz.f37.body).getD .skip
theorem ok37:FnOk Tryz.prog 37 Tryz.f37 body37:=⟨by kernel_rfl,by kernel_rfl,by kernel_rfl,by kernel_rfl⟩
theorem rs37: Tryz.f37.results.toList=[.tmp 2,.tmp 3]:=by kernel_rfl
theorem nt37: Tryz.f37.ntmps=14:=by kernel_rfl
noncomputable def body38:Code:=(Tryz.f38.body).getD .skip
theorem ok38:FnOk Tryz.prog 38 Tryz.f38 body38:=⟨by kernel_rfl,by kernel_rfl,by kernel_rfl,by kernel_rfl⟩
theorem rs38: Tryz.f38.results.toList=[.tmp 2,.tmp 3]:=by kernel_rfl
theorem nt38: Tryz.f38.ntmps=35:=by kernel_rfl
noncomputable def body39:Code:=(Tryz.f39.body).getD .skip
theorem ok39:FnOk Tryz.prog 39 Tryz.f39 body39:=⟨by kernel_rfl,by kernel_rfl,by kernel_rfl,by kernel_rfl⟩
theorem rs39: Tryz.f39.results.toList=[.tmp 2,.tmp 3]:=by kernel_rfl
theorem nt39: Tryz.f39.ntmps=30:=by kernel_rfl
noncomputable def body40:Code:=(Tryz.f40.body).getD .skip
theorem ok40:FnOk Tryz.prog 40 Tryz.f40 body40:=⟨by kernel_rfl,by kernel_rfl,by kernel_rfl,by kernel_rfl⟩
theorem rs40: Tryz.f40.results.toList=[.tmp 2,.tmp 3]:=by kernel_rfl
theorem nt40: Tryz.f40.ntmps=32:=by kernel_rfl
noncomputable def body41:Code:=(Tryz.f41.body).getD .skip
theorem ok41:FnOk Tryz.prog 41 Tryz.f41 body41:=⟨by kernel_rfl,by kernel_rfl,by kernel_rfl,by kernel_rfl⟩
theorem rs41: Tryz.f41.results.toList=[.tmp 2,.tmp 3]:=by kernel_rfl
theorem nt41: Tryz.f41.ntmps=62:=by kernel_rfl
noncomputable def body42:Code:=(Tryz.f42.body).getD .skip
theorem ok42:FnOk Tryz.prog 42 Tryz.f42 body42:=⟨by kernel_rfl,by kernel_rfl,by kernel_rfl,by kernel_rfl⟩
theorem rs42: Tryz.f42.results.toList=[.tmp 2]:=by kernel_rfl
theorem nt42: Tryz.f42.ntmps=8:=by kernel_rfl
noncomputable def body43:Code:=(Tryz.f43.body).getD .skip
theorem ok43:FnOk Tryz.prog 43 Tryz.f43 body43:=⟨by kernel_rfl,by kernel_rfl,by kernel_rfl,by kernel_rfl⟩
theorem rs43: Tryz.f43.results.toList=[.tmp 4]:=by kernel_rfl
theorem nt43: Tryz.f43.ntmps=42:=by kernel_rfl
noncomputable def body44:Code:=(Tryz.f44.body).getD .skip
theorem ok44:FnOk Tryz.prog 44 Tryz.f44 body44:=⟨by kernel_rfl,by kernel_rfl,by kernel_rfl,by kernel_rfl⟩
theorem rs44: Tryz.f44.results.toList=[.tmp 2]:=by kernel_rfl
theorem nt44: Tryz.f44.ntmps=8:=by kernel_rfl
noncomputable def body45:Code:=(Tryz.f45.body).getD .skip
theorem ok45:FnOk Tryz.prog 45 Tryz.f45 body45:=⟨by kernel_rfl,by kernel_rfl,by kernel_rfl,by kernel_rfl⟩
theorem rs45: Tryz.f45.results.toList=[.tmp 2]:=by kernel_rfl
theorem nt45: Tryz.f45.ntmps=6:=by kernel_rfl
noncomputable def body46:Code:=(Tryz.f46.body).getD .skip
theorem ok46:FnOk Tryz.prog 46 Tryz.f46 body46:=⟨by kernel_rfl,by kernel_rfl,by kernel_rfl,by kernel_rfl⟩
theorem rs46: Tryz.f46.results.toList=[.tmp 4]:=by kernel_rfl
theorem nt46: Tryz.f46.ntmps=9:=by kernel_rfl
noncomputable def body47:Code:=(Tryz.f47.body).getD .skip
theorem ok47:FnOk Tryz.prog 47 Tryz.f47 body47:=⟨by kernel_rfl,by kernel_rfl,by kernel_rfl,by kernel_rfl⟩
theorem rs47: Tryz.f47.results.toList=[.tmp 6]:=by kernel_rfl
theorem nt47: Tryz.f47.ntmps=15:=by kernel_rfl
noncomputable def body48:Code:=(Tryz.f48.body).getD .skip
theorem ok48:FnOk Tryz.prog 48 Tryz.f48 body48:=⟨by kernel_rfl,by kernel_rfl,by kernel_rfl,by kernel_rfl⟩
theorem rs48: Tryz.f48.results.toList=[.cell 0 26]:=by kernel_rfl
theorem nt48: Tryz.f48.ntmps=21:=by kernel_rfl
noncomputable def body49:Code:=(Tryz.f49.body).getD .skip
theorem ok49:FnOk Tryz.prog 49 Tryz.f49 body49:=⟨by kernel_rfl,by kernel_rfl,by kernel_rfl,by kernel_rfl⟩
theorem rs49: Tryz.f49.results.toList=[.tmp 2]:=by kernel_rfl
theorem nt49: Tryz.f49.ntmps=8:=by kernel_rfl
noncomputable def body50:Code:=(Tryz.f50.body).getD .skip
theorem ok50:FnOk Tryz.prog 50 Tryz.f50 body50:=⟨by kernel_rfl,by kernel_rfl,by kernel_rfl,by kernel_rfl⟩
theorem rs50: Tryz.f50.results.toList=[.cell 4 26,.tmp 5]:=by kernel_rfl
theorem nt50: Tryz.f50.ntmps=143:=by kernel_rfl
noncomputable def body51:Code:=(Tryz.f51.body).getD .skip
theorem ok51:FnOk Tryz.prog 51 Tryz.f51 body51:=⟨by kernel_rfl,by kernel_rfl,by kernel_rfl,by kernel_rfl⟩
theorem rs51: Tryz.f51.results.toList=[.tmp 2,.tmp 3]:=by kernel_rfl
theorem nt51: Tryz.f51.ntmps=130:=by kernel_rfl
noncomputable def body52:Code:=(Tryz.f52.body).getD .skip
theorem ok52:FnOk Tryz.prog 52 Tryz.f52 body52:=⟨by kernel_rfl,by kernel_rfl,by kernel_rfl,by kernel_rfl⟩
theorem rs52: Tryz.f52.results.toList=[.tmp 4]:=by kernel_rfl
theorem nt52: Tryz.f52.ntmps=237:=by kernel_rfl
noncomputable def body53:Code:=(Tryz.f53.body).getD .skip
theorem ok53:FnOk Tryz.prog 53 Tryz.f53 body53:=⟨by kernel_rfl,by kernel_rfl,by kernel_rfl,by kernel_rfl⟩
theorem rs53: Tryz.f53.results.toList=[.cell 4 26,.tmp 5]:=by kernel_rfl
theorem nt53: Tryz.f53.ntmps=149:=by kernel_rfl
noncomputable def body54:Code:=(Tryz.f54.body).getD .skip
theorem ok54:FnOk Tryz.prog 54 Tryz.f54 body54:=⟨by kernel_rfl,by kernel_rfl,by kernel_rfl,by kernel_rfl⟩
theorem rs54: Tryz.f54.results.toList=[.cell 4 26,.tmp 5]:=by kernel_rfl
theorem nt54: Tryz.f54.ntmps=89:=by kernel_rfl
noncomputable def body55:Code:=(Tryz.f55.body).getD .skip
theorem ok55:FnOk Tryz.prog 55 Tryz.f55 body55:=⟨by kernel_rfl,by kernel_rfl,by kernel_rfl,by kernel_rfl⟩
theorem rs55: Tryz.f55.results.toList=[.cell 4 26,.tmp 5]:=by kernel_rfl
theorem nt55: Tryz.f55.ntmps=165:=by kernel_rfl
noncomputable def body56:Code:=(Tryz.f56.body).getD .skip
theorem ok56:FnOk Tryz.prog 56 Tryz.f56 body56:=⟨by kernel_rfl,by kernel_rfl,by kernel_rfl,by kernel_rfl⟩
theorem rs56: Tryz.f56.results.toList=[.tmp 2]:=by kernel_rfl
theorem nt56: Tryz.f56.ntmps=22:=by kernel_rfl
noncomputable def body57:Code:=(Tryz.f57.body).getD .skip
theorem ok57:FnOk Tryz.prog 57 Tryz.f57 body57:=⟨by kernel_rfl,by kernel_rfl,by kernel_rfl,by kernel_rfl⟩
theorem rs57: Tryz.f57.results.toList=[.tmp 2,.tmp 3]:=by kernel_rfl
theorem nt57: Tryz.f57.ntmps=12:=by kernel_rfl
noncomputable def body58:Code:=(Tryz.f58.body).getD .skip
theorem ok58:FnOk Tryz.prog 58 Tryz.f58 body58:=⟨by kernel_rfl,by kernel_rfl,by kernel_rfl,by kernel_rfl⟩
theorem rs58: Tryz.f58.results.toList=[.cell 2 26,.cell 3 29]:=by kernel_rfl
theorem nt58: Tryz.f58.ntmps=42:=by kernel_rfl
noncomputable def body59:Code:=(Tryz.f59.body).getD .skip
theorem ok59:FnOk Tryz.prog 59 Tryz.f59 body59:=⟨by kernel_rfl,by kernel_rfl,by kernel_rfl,by kernel_rfl⟩
theorem rs59: Tryz.f59.results.toList=[.cell 2 26,.tmp 3]:=by kernel_rfl
theorem nt59: Tryz.f59.ntmps=193:=by kernel_rfl
noncomputable def body60:Code:=(Tryz.f60.body).getD .skip
theorem ok60:FnOk Tryz.prog 60 Tryz.f60 body60:=⟨by kernel_rfl,by kernel_rfl,by kernel_rfl,by kernel_rfl⟩
theorem rs60: Tryz.f60.results.toList=[.tmp 4]:=by kernel_rfl
theorem nt60: Tryz.f60.ntmps=8:=by kernel_rfl
noncomputable def body61:Code:=(Tryz.f61.body).getD .skip
theorem ok61:FnOk Tryz.prog 61 Tryz.f61 body61:=⟨by kernel_rfl,by kernel_rfl,by kernel_rfl,by kernel_rfl⟩
theorem rs61: Tryz.f61.results.toList=[.tmp 2]:=by kernel_rfl
theorem nt61: Tryz.f61.ntmps=190:=by kernel_rfl
noncomputable def body62:Code:=(Tryz.f62.body).getD .skip
theorem ok62:FnOk Tryz.prog 62 Tryz.f62 body62:=⟨by kernel_rfl,by kernel_rfl,by kernel_rfl,by kernel_rfl⟩
theorem rs62: Tryz.f62.results.toList=[.tmp 2]:=by kernel_rfl
theorem nt62: Tryz.f62.ntmps=108:=by kernel_rfl
noncomputable def body63:Code:=(Tryz.f63.body).getD .skip
theorem ok63:FnOk Tryz.prog 63 Tryz.f63 body63:=⟨by kernel_rfl,by kernel_rfl,by kernel_rfl,by kernel_rfl⟩
theorem rs63: Tryz.f63.results.toList=[.tmp 2]:=by kernel_rfl
theorem nt63: Tryz.f63.ntmps=130:=by kernel_rfl
noncomputable def body64:Code:=(Tryz.f64.body).getD .skip
theorem ok64:FnOk Tryz.prog 64 Tryz.f64 body64:=⟨by kernel_rfl,by kernel_rfl,by kernel_rfl,by kernel_rfl⟩
theorem rs64: Tryz.f64.results.toList=[.tmp 2]:=by kernel_rfl
theorem nt64: Tryz.f64.ntmps=133:=by kernel_rfl
noncomputable def body65:Code:=(Tryz.f65.body).getD .skip
theorem ok65:FnOk Tryz.prog 65 Tryz.f65 body65:=⟨by kernel_rfl,by kernel_rfl,by kernel_rfl,by kernel_rfl⟩
theorem rs65: Tryz.f65.results.toList=[.tmp 2]:=by kernel_rfl
theorem nt65: Tryz.f65.ntmps=44:=by kernel_rfl
noncomputable def body66:Code:=(Tryz.f66.body).getD .skip
theorem ok66:FnOk Tryz.prog 66 Tryz.f66 body66:=⟨by kernel_rfl,by kernel_rfl,by kernel_rfl,by kernel_rfl⟩
theorem rs66: Tryz.f66.results.toList=[.tmp 4]:=by kernel_rfl
theorem nt66: Tryz.f66.ntmps=21:=by kernel_rfl
noncomputable def body67:Code:=(Tryz.f67.body).getD .skip
theorem ok67:FnOk Tryz.prog 67 Tryz.f67 body67:=⟨by kernel_rfl,by kernel_rfl,by kernel_rfl,by kernel_rfl⟩
theorem rs67: Tryz.f67.results.toList=[.cell 4 99]:=by kernel_rfl
theorem nt67: Tryz.f67.ntmps=21:=by kernel_rfl
noncomputable def body68:Code:=(Tryz.f68.body).getD .skip
theorem ok68:FnOk Tryz.prog 68 Tryz.f68 body68:=⟨by kernel_rfl,by kernel_rfl,by kernel_rfl,by kernel_rfl⟩
theorem rs68: Tryz.f68.results.toList=[.cell 8 99]:=by kernel_rfl
theorem nt68: Tryz.f68.ntmps=58:=by kernel_rfl
noncomputable def body69:Code:=(Tryz.f69.body).getD .skip
theorem ok69:FnOk Tryz.prog 69 Tryz.f69 body69:=⟨by kernel_rfl,by kernel_rfl,by kernel_rfl,by kernel_rfl⟩
theorem rs69: Tryz.f69.results.toList=[.cell 6 99]:=by kernel_rfl
theorem nt69: Tryz.f69.ntmps=46:=by kernel_rfl
noncomputable def body70:Code:=(Tryz.f70.body).getD .skip
theorem ok70:FnOk Tryz.prog 70 Tryz.f70 body70:=⟨by kernel_rfl,by kernel_rfl,by kernel_rfl,by kernel_rfl⟩
theorem rs70: Tryz.f70.results.toList=[.tmp 4]:=by kernel_rfl
theorem nt70: Tryz.f70.ntmps=9:=by kernel_rfl
noncomputable def body71:Code:=(Tryz.f71.body).getD .skip
theorem ok71:FnOk Tryz.prog 71 Tryz.f71 body71:=⟨by kernel_rfl,by kernel_rfl,by kernel_rfl,by kernel_rfl⟩
theorem rs71: Tryz.f71.results.toList=[.tmp 2]:=by kernel_rfl
theorem nt71: Tryz.f71.ntmps=6:=by kernel_rfl
noncomputable def body72:Code:=(Tryz.f72.body).getD .skip
theorem ok72:FnOk Tryz.prog 72 Tryz.f72 body72:=⟨by kernel_rfl,by kernel_rfl,by kernel_rfl,by kernel_rfl⟩
theorem rs72: Tryz.f72.results.toList=[.tmp 4]:=by kernel_rfl
theorem nt72: Tryz.f72.ntmps=105:=by kernel_rfl
noncomputable def body73:Code:=(Tryz.f73.body).getD .skip
theorem ok73:FnOk Tryz.prog 73 Tryz.f73 body73:=⟨by kernel_rfl,by kernel_rfl,by kernel_rfl,by kernel_rfl⟩
theorem rs73: Tryz.f73.results.toList=[.tmp 4]:=by kernel_rfl
theorem nt73: Tryz.f73.ntmps=147:=by kernel_rfl
noncomputable def body74:Code:=(Tryz.f74.body).getD .skip
theorem ok74:FnOk Tryz.prog 74 Tryz.f74 body74:=⟨by kernel_rfl,by kernel_rfl,by kernel_rfl,by kernel_rfl⟩
theorem rs74: Tryz.f74.results.toList=[.tmp 6]:=by kernel_rfl
theorem nt74: Tryz.f74.ntmps=15:=by kernel_rfl
noncomputable def body75:Code:=(Tryz.f75.body).getD .skip
theorem ok75:FnOk Tryz.prog 75 Tryz.f75 body75:=⟨by kernel_rfl,by kernel_rfl,by kernel_rfl,by kernel_rfl⟩
theorem rs75: Tryz.f75.results.toList=[.cell 4 26,.tmp 5]:=by kernel_rfl
theorem nt75: Tryz.f75.ntmps=17:=by kernel_rfl
noncomputable def body76:Code:=(Tryz.f76.body).getD .skip
theorem ok76:FnOk Tryz.prog 76 Tryz.f76 body76:=⟨by kernel_rfl,by kernel_rfl,by kernel_rfl,by kernel_rfl⟩
theorem rs76: Tryz.f76.results.toList=[.tmp 4]:=by kernel_rfl
theorem nt76: Tryz.f76.ntmps=9:=by kernel_rfl
noncomputable def body77:Code:=(Tryz.f77.body).getD .skip
theorem ok77:FnOk Tryz.prog 77 Tryz.f77 body77:=⟨by kernel_rfl,by kernel_rfl,by kernel_rfl,by kernel_rfl⟩
theorem rs77: Tryz.f77.results.toList=[.tmp 4]:=by kernel_rfl
theorem nt77: Tryz.f77.ntmps=9:=by kernel_rfl
noncomputable def body78:Code:=(Tryz.f78.body).getD .skip
theorem ok78:FnOk Tryz.prog 78 Tryz.f78 body78:=⟨by kernel_rfl,by kernel_rfl,by kernel_rfl,by kernel_rfl⟩
theorem rs78: Tryz.f78.results.toList=[.tmp 2]:=by kernel_rfl
theorem nt78: Tryz.f78.ntmps=6:=by kernel_rfl
noncomputable def body79:Code:=(Tryz.f79.body).getD .skip
theorem ok79:FnOk Tryz.prog 79 Tryz.f79 body79:=⟨by kernel_rfl,by kernel_rfl,by kernel_rfl,by kernel_rfl⟩
theorem rs79: Tryz.f79.results.toList=[]:=by kernel_rfl
theorem nt79: Tryz.f79.ntmps=30:=by kernel_rfl
noncomputable def body80:Code:=(Tryz.f80.body).getD .skip
theorem ok80:FnOk Tryz.prog 80 Tryz.f80 body80:=⟨by kernel_rfl,by kernel_rfl,by kernel_rfl,by kernel_rfl⟩
theorem rs80: Tryz.f80.results.toList=[.cell 4 120]:=by kernel_rfl
theorem nt80: Tryz.f80.ntmps=31:=by kernel_rfl
noncomputable def body81:Code:=(Tryz.f81.body).getD .skip
theorem ok81:FnOk Tryz.prog 81 Tryz.f81 body81:=⟨by kernel_rfl,by kernel_rfl,by kernel_rfl,by kernel_rfl⟩
theorem rs81: Tryz.f81.results.toList=[.tmp 4]:=by kernel_rfl
theorem nt81: Tryz.f81.ntmps=45:=by kernel_rfl
noncomputable def body82:Code:=(Tryz.f82.body).getD .skip
theorem ok82:FnOk Tryz.prog 82 Tryz.f82 body82:=⟨by kernel_rfl,by kernel_rfl,by kernel_rfl,by kernel_rfl⟩
theorem rs82: Tryz.f82.results.toList=[.tmp 6]:=by kernel_rfl
theorem nt82: Tryz.f82.ntmps=15:=by kernel_rfl
noncomputable def body83:Code:=(Tryz.f83.body).getD .skip
theorem ok83:FnOk Tryz.prog 83 Tryz.f83 body83:=⟨by kernel_rfl,by kernel_rfl,by kernel_rfl,by kernel_rfl⟩
theorem rs83: Tryz.f83.results.toList=[.tmp 4]:=by kernel_rfl
theorem nt83: Tryz.f83.ntmps=20:=by kernel_rfl
noncomputable def body84:Code:=(Tryz.f84.body).getD .skip
theorem ok84:FnOk Tryz.prog 84 Tryz.f84 body84:=⟨by kernel_rfl,by kernel_rfl,by kernel_rfl,by kernel_rfl⟩
theorem rs84: Tryz.f84.results.toList=[.tmp 2]:=by kernel_rfl
theorem nt84: Tryz.f84.ntmps=23:=by kernel_rfl
noncomputable def body85:Code:=(Tryz.f85.body).getD .skip
theorem ok85:FnOk Tryz.prog 85 Tryz.f85 body85:=⟨by kernel_rfl,by kernel_rfl,by kernel_rfl,by kernel_rfl⟩
theorem rs85: Tryz.f85.results.toList=[.tmp 4,.tmp 5,.tmp 6]:=by kernel_rfl
theorem nt85: Tryz.f85.ntmps=296:=by kernel_rfl
noncomputable def body86:Code:=(Tryz.f86.body).getD .skip
theorem ok86:FnOk Tryz.prog 86 Tryz.f86 body86:=⟨by kernel_rfl,by kernel_rfl,by kernel_rfl,by kernel_rfl⟩
theorem rs86: Tryz.f86.results.toList=[.tmp 6]:=by kernel_rfl
theorem nt86: Tryz.f86.ntmps=49:=by kernel_rfl
noncomputable def body87:Code:=(Tryz.f87.body).getD .skip
theorem ok87:FnOk Tryz.prog 87 Tryz.f87 body87:=⟨by kernel_rfl,by kernel_rfl,by kernel_rfl,by kernel_rfl⟩
theorem rs87: Tryz.f87.results.toList=[.tmp 4]:=by kernel_rfl
theorem nt87: Tryz.f87.ntmps=26:=by kernel_rfl
noncomputable def body88:Code:=(Tryz.f88.body).getD .skip
theorem ok88:FnOk Tryz.prog 88 Tryz.f88 body88:=⟨by kernel_rfl,by kernel_rfl,by kernel_rfl,by kernel_rfl⟩
theorem rs88: Tryz.f88.results.toList=[.tmp 2]:=by kernel_rfl
theorem nt88: Tryz.f88.ntmps=8:=by kernel_rfl
noncomputable def body89:Code:=(Tryz.f89.body).getD .skip
theorem ok89:FnOk Tryz.prog 89 Tryz.f89 body89:=⟨by kernel_rfl,by kernel_rfl,by kernel_rfl,by kernel_rfl⟩
theorem rs89: Tryz.f89.results.toList=[.tmp 2]:=by kernel_rfl
theorem nt89: Tryz.f89.ntmps=6:=by kernel_rfl
noncomputable def body90:Code:=(Tryz.f90.body).getD .skip
theorem ok90:FnOk Tryz.prog 90 Tryz.f90 body90:=⟨by kernel_rfl,by kernel_rfl,by kernel_rfl,by kernel_rfl⟩
theorem rs90: Tryz.f90.results.toList=[.tmp 2]:=by kernel_rfl
theorem nt90: Tryz.f90.ntmps=4:=by kernel_rfl
noncomputable def body91:Code:=(Tryz.f91.body).getD .skip
theorem ok91:FnOk Tryz.prog 91 Tryz.f91 body91:=⟨by kernel_rfl,by kernel_rfl,by kernel_rfl,by kernel_rfl⟩
theorem rs91: Tryz.f91.results.toList=[.tmp 4]:=by kernel_rfl
theorem nt91: Tryz.f91.ntmps=18:=by kernel_rfl
noncomputable def body92:Code:=(Tryz.f92.body).getD .skip
theorem ok92:FnOk Tryz.prog 92 Tryz.f92 body92:=⟨by kernel_rfl,by kernel_rfl,by kernel_rfl,by kernel_rfl⟩
theorem rs92: Tryz.f92.results.toList=[.tmp 4]:=by kernel_rfl
theorem nt92: Tryz.f92.ntmps=28:=by kernel_rfl
noncomputable def body93:Code:=(Tryz.f93.body).getD .skip
theorem ok93:FnOk Tryz.prog 93 Tryz.f93 body93:=⟨by kernel_rfl,by kernel_rfl,by kernel_rfl,by kernel_rfl⟩
theorem rs93: Tryz.f93.results.toList=[.tmp 2]:=by kernel_rfl
theorem nt93: Tryz.f93.ntmps=44:=by kernel_rfl
noncomputable def body94:Code:=(Tryz.f94.body).getD .skip
theorem ok94:FnOk Tryz.prog 94 Tryz.f94 body94:=⟨by kernel_rfl,by kernel_rfl,by kernel_rfl,by kernel_rfl⟩
theorem rs94: Tryz.f94.results.toList=[.tmp 4]:=by kernel_rfl
theorem nt94: Tryz.f94.ntmps=9:=by kernel_rfl
noncomputable def body95:Code:=(Tryz.f95.body).getD .skip
theorem ok95:FnOk Tryz.prog 95 Tryz.f95 body95:=⟨by kernel_rfl,by kernel_rfl,by kernel_rfl,by kernel_rfl⟩
theorem rs95: Tryz.f95.results.toList=[.tmp 2]:=by kernel_rfl
theorem nt95: Tryz.f95.ntmps=6:=by kernel_rfl
noncomputable def body96:Code:=(Tryz.f96.body).getD .skip
theorem ok96:FnOk Tryz.prog 96 Tryz.f96 body96:=⟨by kernel_rfl,by kernel_rfl,by kernel_rfl,by kernel_rfl⟩
theorem rs96: Tryz.f96.results.toList=[.tmp 4]:=by kernel_rfl
theorem nt96: Tryz.f96.ntmps=9:=by kernel_rfl
noncomputable def body97:Code:=(Tryz.f97.body).getD .skip
theorem ok97:FnOk Tryz.prog 97 Tryz.f97 body97:=⟨by kernel_rfl,by kernel_rfl,by kernel_rfl,by kernel_rfl⟩
theorem rs97: Tryz.f97.results.toList=[.tmp 2]:=by kernel_rfl
theorem nt97: Tryz.f97.ntmps=6:=by kernel_rfl
noncomputable def body98:Code:=(Tryz.f98.body).getD .skip
theorem ok98:FnOk Tryz.prog 98 Tryz.f98 body98:=⟨by kernel_rfl,by kernel_rfl,by kernel_rfl,by kernel_rfl⟩
theorem rs98: Tryz.f98.results.toList=[.tmp 4]:=by kernel_rfl
theorem nt98: Tryz.f98.ntmps=19:=by kernel_rfl
noncomputable def body99:Code:=(Tryz.f99.body).getD .skip
theorem ok99:FnOk Tryz.prog 99 Tryz.f99 body99:=⟨by kernel_rfl,by kernel_rfl,by kernel_rfl,by kernel_rfl⟩
theorem rs99: Tryz.f99.results.toList=[.tmp 4]:=by kernel_rfl
theorem nt99: Tryz.f99.ntmps=19:=by kernel_rfl
noncomputable def body100:Code:=(Tryz.f100.body).getD .skip
theorem ok100:FnOk Tryz.prog 100 Tryz.f100 body100:=⟨by kernel_rfl,by kernel_rfl,by kernel_rfl,by kernel_rfl⟩
theorem rs100: Tryz.f100.results.toList=[.cell 8 48]:=by kernel_rfl
theorem nt100: Tryz.f100.ntmps=15:=by kernel_rfl
noncomputable def body101:Code:=(Tryz.f101.body).getD .skip
theorem ok101:FnOk Tryz.prog 101 Tryz.f101 body101:=⟨by kernel_rfl,by kernel_rfl,by kernel_rfl,by kernel_rfl⟩
theorem rs101: Tryz.f101.results.toList=[.tmp 6]:=by kernel_rfl
theorem nt101: Tryz.f101.ntmps=48:=by kernel_rfl
noncomputable def body102:Code:=(Tryz.f102.body).getD .skip
theorem ok102:FnOk Tryz.prog 102 Tryz.f102 body102:=⟨by kernel_rfl,by kernel_rfl,by kernel_rfl,by kernel_rfl⟩
theorem rs102: Tryz.f102.results.toList=[.cell 2 26]:=by kernel_rfl
theorem nt102: Tryz.f102.ntmps=20:=by kernel_rfl
noncomputable def body103:Code:=(Tryz.f103.body).getD .skip
theorem ok103:FnOk Tryz.prog 103 Tryz.f103 body103:=⟨by kernel_rfl,by kernel_rfl,by kernel_rfl,by kernel_rfl⟩
theorem rs103: Tryz.f103.results.toList=[.tmp 4]:=by kernel_rfl
theorem nt103: Tryz.f103.ntmps=22:=by kernel_rfl
noncomputable def body104:Code:=(Tryz.f104.body).getD .skip
theorem ok104:FnOk Tryz.prog 104 Tryz.f104 body104:=⟨by kernel_rfl,by kernel_rfl,by kernel_rfl,by kernel_rfl⟩
theorem rs104: Tryz.f104.results.toList=[.cell 3 45]:=by kernel_rfl
theorem nt104: Tryz.f104.ntmps=7:=by kernel_rfl
noncomputable def body105:Code:=(Tryz.f105.body).getD .skip
theorem ok105:FnOk Tryz.prog 105 Tryz.f105 body105:=⟨by kernel_rfl,by kernel_rfl,by kernel_rfl,by kernel_rfl⟩
theorem rs105: Tryz.f105.results.toList=[.cell 4 45]:=by kernel_rfl
theorem nt105: Tryz.f105.ntmps=72:=by kernel_rfl
noncomputable def body106:Code:=(Tryz.f106.body).getD .skip
theorem ok106:FnOk Tryz.prog 106 Tryz.f106 body106:=⟨by kernel_rfl,by kernel_rfl,by kernel_rfl,by kernel_rfl⟩
theorem rs106: Tryz.f106.results.toList=[.tmp 4]:=by kernel_rfl
theorem nt106: Tryz.f106.ntmps=22:=by kernel_rfl
noncomputable def body107:Code:=(Tryz.f107.body).getD .skip
theorem ok107:FnOk Tryz.prog 107 Tryz.f107 body107:=⟨by kernel_rfl,by kernel_rfl,by kernel_rfl,by kernel_rfl⟩
theorem rs107: Tryz.f107.results.toList=[.tmp 3]:=by kernel_rfl
theorem nt107: Tryz.f107.ntmps=8:=by kernel_rfl
noncomputable def body108:Code:=(Tryz.f108.body).getD .skip
theorem ok108:FnOk Tryz.prog 108 Tryz.f108 body108:=⟨by kernel_rfl,by kernel_rfl,by kernel_rfl,by kernel_rfl⟩
theorem rs108: Tryz.f108.results.toList=[]:=by kernel_rfl
theorem nt108: Tryz.f108.ntmps=11:=by kernel_rfl
noncomputable def body109:Code:=(Tryz.f109.body).getD .skip
theorem ok109:FnOk Tryz.prog 109 Tryz.f109 body109:=⟨by kernel_rfl,by kernel_rfl,by kernel_rfl,by kernel_rfl⟩
theorem rs109: Tryz.f109.results.toList=[.tmp 2]:=by kernel_rfl
theorem nt109: Tryz.f109.ntmps=5:=by kernel_rfl
noncomputable def body110:Code:=(Tryz.f110.body).getD .skip
theorem ok110:FnOk Tryz.prog 110 Tryz.f110 body110:=⟨by kernel_rfl,by kernel_rfl,by kernel_rfl,by kernel_rfl⟩
theorem rs110: Tryz.f110.results.toList=[]:=by kernel_rfl
theorem nt110: Tryz.f110.ntmps=13:=by kernel_rfl
noncomputable def body111:Code:=(Tryz.f111.body).getD .skip
theorem ok111:FnOk Tryz.prog 111 Tryz.f111 body111:=⟨by kernel_rfl,by kernel_rfl,by kernel_rfl,by kernel_rfl⟩
theorem rs111: Tryz.f111.results.toList=[.tmp 2]:=by kernel_rfl
theorem nt111: Tryz.f111.ntmps=5:=by kernel_rfl
noncomputable def body112:Code:=(Tryz.f112.body).getD .skip
theorem ok112:FnOk Tryz.prog 112 Tryz.f112 body112:=⟨by kernel_rfl,by kernel_rfl,by kernel_rfl,by kernel_rfl⟩
theorem rs112: Tryz.f112.results.toList=[]:=by kernel_rfl
theorem nt112: Tryz.f112.ntmps=24:=by kernel_rfl
noncomputable def body113:Code:=(Tryz.f113.body).getD .skip
theorem ok113:FnOk Tryz.prog 113 Tryz.f113 body113:=⟨by kernel_rfl,by kernel_rfl,by kernel_rfl,by kernel_rfl⟩
theorem rs113: Tryz.f113.results.toList=[.tmp 2]:=by kernel_rfl
theorem nt113: Tryz.f113.ntmps=14:=by kernel_rfl
noncomputable def body114:Code:=(Tryz.f114.body).getD .skip
theorem ok114:FnOk Tryz.prog 114 Tryz.f114 body114:=⟨by kernel_rfl,by kernel_rfl,by kernel_rfl,by kernel_rfl⟩
theorem rs114: Tryz.f114.results.toList=[.tmp 2]:=by kernel_rfl
theorem nt114: Tryz.f114.ntmps=20:=by kernel_rfl
noncomputable def body115:Code:=(Tryz.f115.body).getD .skip
theorem ok115:FnOk Tryz.prog 115 Tryz.f115 body115:=⟨by kernel_rfl,by kernel_rfl,by kernel_rfl,by kernel_rfl⟩
theorem rs115: Tryz.f115.results.toList=[.tmp 4]:=by kernel_rfl
theorem nt115: Tryz.f115.ntmps=45:=by kernel_rfl
noncomputable def body116:Code:=(Tryz.f116.body).getD .skip
theorem ok116:FnOk Tryz.prog 116 Tryz.f116 body116:=⟨by kernel_rfl,by kernel_rfl,by kernel_rfl,by kernel_rfl⟩
theorem rs116: Tryz.f116.results.toList=[.tmp 6]:=by kernel_rfl
theorem nt116: Tryz.f116.ntmps=56:=by kernel_rfl
noncomputable def body117:Code:=(Tryz.f117.body).getD .skip
theorem ok117:FnOk Tryz.prog 117 Tryz.f117 body117:=⟨by kernel_rfl,by kernel_rfl,by kernel_rfl,by kernel_rfl⟩
theorem rs117: Tryz.f117.results.toList=[.cell 4 45]:=by kernel_rfl
theorem nt117: Tryz.f117.ntmps=64:=by kernel_rfl
noncomputable def body118:Code:=(Tryz.f118.body).getD .skip
theorem ok118:FnOk Tryz.prog 118 Tryz.f118 body118:=⟨by kernel_rfl,by kernel_rfl,by kernel_rfl,by kernel_rfl⟩
theorem rs118: Tryz.f118.results.toList=[.tmp 4]:=by kernel_rfl
theorem nt118: Tryz.f118.ntmps=24:=by kernel_rfl
noncomputable def body119:Code:=(Tryz.f119.body).getD .skip
theorem ok119:FnOk Tryz.prog 119 Tryz.f119 body119:=⟨by kernel_rfl,by kernel_rfl,by kernel_rfl,by kernel_rfl⟩
theorem rs119: Tryz.f119.results.toList=[.cell 4 48]:=by kernel_rfl
theorem nt119: Tryz.f119.ntmps=65:=by kernel_rfl
noncomputable def body120:Code:=(Tryz.f120.body).getD .skip
theorem ok120:FnOk Tryz.prog 120 Tryz.f120 body120:=⟨by kernel_rfl,by kernel_rfl,by kernel_rfl,by kernel_rfl⟩
theorem rs120: Tryz.f120.results.toList=[]:=by kernel_rfl
theorem nt120: Tryz.f120.ntmps=14:=by kernel_rfl
noncomputable def body121:Code:=(Tryz.f121.body).getD .skip
theorem ok121:FnOk Tryz.prog 121 Tryz.f121 body121:=⟨by kernel_rfl,by kernel_rfl,by kernel_rfl,by kernel_rfl⟩
theorem rs121: Tryz.f121.results.toList=[.tmp 5]:=by kernel_rfl
theorem nt121: Tryz.f121.ntmps=15:=by kernel_rfl
noncomputable def body122:Code:=(Tryz.f122.body).getD .skip
theorem ok122:FnOk Tryz.prog 122 Tryz.f122 body122:=⟨by kernel_rfl,by kernel_rfl,by kernel_rfl,by kernel_rfl⟩
theorem rs122: Tryz.f122.results.toList=[.tmp 5]:=by kernel_rfl
theorem nt122: Tryz.f122.ntmps=16:=by kernel_rfl
noncomputable def body123:Code:=(Tryz.f123.body).getD .skip
theorem ok123:FnOk Tryz.prog 123 Tryz.f123 body123:=⟨by kernel_rfl,by kernel_rfl,by kernel_rfl,by kernel_rfl⟩
theorem rs123: Tryz.f123.results.toList=[.tmp 4]:=by kernel_rfl
theorem nt123: Tryz.f123.ntmps=51:=by kernel_rfl
noncomputable def body124:Code:=(Tryz.f124.body).getD .skip
theorem ok124:FnOk Tryz.prog 124 Tryz.f124 body124:=⟨by kernel_rfl,by kernel_rfl,by kernel_rfl,by kernel_rfl⟩
theorem rs124: Tryz.f124.results.toList=[.tmp 2]:=by kernel_rfl
theorem nt124: Tryz.f124.ntmps=153:=by kernel_rfl
noncomputable def body125:Code:=(Tryz.f125.body).getD .skip
theorem ok125:FnOk Tryz.prog 125 Tryz.f125 body125:=⟨by kernel_rfl,by kernel_rfl,by kernel_rfl,by kernel_rfl⟩
theorem rs125: Tryz.f125.results.toList=[]:=by kernel_rfl
theorem nt125: Tryz.f125.ntmps=17:=by kernel_rfl
noncomputable def body126:Code:=(Tryz.f126.body).getD .skip
theorem ok126:FnOk Tryz.prog 126 Tryz.f126 body126:=⟨by kernel_rfl,by kernel_rfl,by kernel_rfl,by kernel_rfl⟩
theorem rs126: Tryz.f126.results.toList=[.tmp 2]:=by kernel_rfl
theorem nt126: Tryz.f126.ntmps=4:=by kernel_rfl
noncomputable def body127:Code:=(Tryz.f127.body).getD .skip
theorem ok127:FnOk Tryz.prog 127 Tryz.f127 body127:=⟨by kernel_rfl,by kernel_rfl,by kernel_rfl,by kernel_rfl⟩
theorem rs127: Tryz.f127.results.toList=[.tmp 4]:=by kernel_rfl
theorem nt127: Tryz.f127.ntmps=8:=by kernel_rfl
noncomputable def body128:Code:=(Tryz.f128.body).getD .skip
theorem ok128:FnOk Tryz.prog 128 Tryz.f128 body128:=⟨by kernel_rfl,by kernel_rfl,by kernel_rfl,by kernel_rfl⟩
theorem rs128: Tryz.f128.results.toList=[.tmp 4]:=by kernel_rfl
theorem nt128: Tryz.f128.ntmps=8:=by kernel_rfl
noncomputable def body129:Code:=(Tryz.f129.body).getD .skip
theorem ok129:FnOk Tryz.prog 129 Tryz.f129 body129:=⟨by kernel_rfl,by kernel_rfl,by kernel_rfl,by kernel_rfl⟩
theorem rs129: Tryz.f129.results.toList=[.cell 2 26]:=by kernel_rfl
theorem nt129: Tryz.f129.ntmps=65:=by kernel_rfl
noncomputable def body130:Code:=(Tryz.f130.body).getD .skip
theorem ok130:FnOk Tryz.prog 130 Tryz.f130 body130:=⟨by kernel_rfl,by kernel_rfl,by kernel_rfl,by kernel_rfl⟩
theorem rs130: Tryz.f130.results.toList=[.tmp 4]:=by kernel_rfl
theorem nt130: Tryz.f130.ntmps=35:=by kernel_rfl
noncomputable def body131:Code:=(Tryz.f131.body).getD .skip
theorem ok131:FnOk Tryz.prog 131 Tryz.f131 body131:=⟨by kernel_rfl,by kernel_rfl,by kernel_rfl,by kernel_rfl⟩
theorem rs131: Tryz.f131.results.toList=[.tmp 2]:=by kernel_rfl
theorem nt131: Tryz.f131.ntmps=41:=by kernel_rfl
noncomputable def body132:Code:=(Tryz.f132.body).getD .skip
theorem ok132:FnOk Tryz.prog 132 Tryz.f132 body132:=⟨by kernel_rfl,by kernel_rfl,by kernel_rfl,by kernel_rfl⟩
theorem rs132: Tryz.f132.results.toList=[.tmp 2]:=by kernel_rfl
theorem nt132: Tryz.f132.ntmps=22:=by kernel_rfl
noncomputable def body133:Code:=(Tryz.f133.body).getD .skip
theorem ok133:FnOk Tryz.prog 133 Tryz.f133 body133:=⟨by kernel_rfl,by kernel_rfl,by kernel_rfl,by kernel_rfl⟩
theorem rs133: Tryz.f133.results.toList=[.cell 2 45]:=by kernel_rfl
theorem nt133: Tryz.f133.ntmps=32:=by kernel_rfl
noncomputable def body134:Code:=(Tryz.f134.body).getD .skip
theorem ok134:FnOk Tryz.prog 134 Tryz.f134 body134:=⟨by kernel_rfl,by kernel_rfl,by kernel_rfl,by kernel_rfl⟩
theorem rs134: Tryz.f134.results.toList=[.tmp 2]:=by kernel_rfl
theorem nt134: Tryz.f134.ntmps=20:=by kernel_rfl
noncomputable def body135:Code:=(Tryz.f135.body).getD .skip
theorem ok135:FnOk Tryz.prog 135 Tryz.f135 body135:=⟨by kernel_rfl,by kernel_rfl,by kernel_rfl,by kernel_rfl⟩
theorem rs135: Tryz.f135.results.toList=[.tmp 4]:=by kernel_rfl
theorem nt135: Tryz.f135.ntmps=18:=by kernel_rfl
noncomputable def body136:Code:=(Tryz.f136.body).getD .skip
theorem ok136:FnOk Tryz.prog 136 Tryz.f136 body136:=⟨by kernel_rfl,by kernel_rfl,by kernel_rfl,by kernel_rfl⟩
theorem rs136: Tryz.f136.results.toList=[.cell 2 93]:=by kernel_rfl
theorem nt136: Tryz.f136.ntmps=13:=by kernel_rfl
noncomputable def body137:Code:=(Tryz.f137.body).getD .skip
theorem ok137:FnOk Tryz.prog 137 Tryz.f137 body137:=⟨by kernel_rfl,by kernel_rfl,by kernel_rfl,by kernel_rfl⟩
theorem rs137: Tryz.f137.results.toList=[.tmp 2]:=by kernel_rfl
theorem nt137: Tryz.f137.ntmps=12:=by kernel_rfl
noncomputable def body138:Code:=(Tryz.f138.body).getD .skip
theorem ok138:FnOk Tryz.prog 138 Tryz.f138 body138:=⟨by kernel_rfl,by kernel_rfl,by kernel_rfl,by kernel_rfl⟩
theorem rs138: Tryz.f138.results.toList=[.tmp 4]:=by kernel_rfl
theorem nt138: Tryz.f138.ntmps=9:=by kernel_rfl
noncomputable def body139:Code:=(Tryz.f139.body).getD .skip
theorem ok139:FnOk Tryz.prog 139 Tryz.f139 body139:=⟨by kernel_rfl,by kernel_rfl,by kernel_rfl,by kernel_rfl⟩
theorem rs139: Tryz.f139.results.toList=[.tmp 4]:=by kernel_rfl
theorem nt139: Tryz.f139.ntmps=9:=by kernel_rfl
noncomputable def body140:Code:=(Tryz.f140.body).getD .skip
theorem ok140:FnOk Tryz.prog 140 Tryz.f140 body140:=⟨by kernel_rfl,by kernel_rfl,by kernel_rfl,by kernel_rfl⟩
theorem rs140: Tryz.f140.results.toList=[.tmp 2]:=by kernel_rfl
theorem nt140: Tryz.f140.ntmps=6:=by kernel_rfl
noncomputable def body141:Code:=(Tryz.f141.body).getD .skip
theorem ok141:FnOk Tryz.prog 141 Tryz.f141 body141:=⟨by kernel_rfl,by kernel_rfl,by kernel_rfl,by kernel_rfl⟩
theorem rs141: Tryz.f141.results.toList=[.tmp 2]:=by kernel_rfl
theorem nt141: Tryz.f141.ntmps=12:=by kernel_rfl
noncomputable def body142:Code:=(Tryz.f142.body).getD .skip
theorem ok142:FnOk Tryz.prog 142 Tryz.f142 body142:=⟨by kernel_rfl,by kernel_rfl,by kernel_rfl,by kernel_rfl⟩
theorem rs142: Tryz.f142.results.toList=[.tmp 4]:=by kernel_rfl
theorem nt142: Tryz.f142.ntmps=252:=by kernel_rfl
noncomputable def body143:Code:=(Tryz.f143.body).getD .skip
theorem ok143:FnOk Tryz.prog 143 Tryz.f143 body143:=⟨by kernel_rfl,by kernel_rfl,by kernel_rfl,by kernel_rfl⟩
theorem rs143: Tryz.f143.results.toList=[.tmp 10]:=by kernel_rfl
theorem nt143: Tryz.f143.ntmps=156:=by kernel_rfl
noncomputable def body144:Code:=(Tryz.f144.body).getD .skip
theorem ok144:FnOk Tryz.prog 144 Tryz.f144 body144:=⟨by kernel_rfl,by kernel_rfl,by kernel_rfl,by kernel_rfl⟩
theorem rs144: Tryz.f144.results.toList=[.tmp 2,.tmp 3]:=by kernel_rfl
theorem nt144: Tryz.f144.ntmps=122:=by kernel_rfl
noncomputable def body145:Code:=(Tryz.f145.body).getD .skip
theorem ok145:FnOk Tryz.prog 145 Tryz.f145 body145:=⟨by kernel_rfl,by kernel_rfl,by kernel_rfl,by kernel_rfl⟩
theorem rs145: Tryz.f145.results.toList=[.cell 4 201,.tmp 5]:=by kernel_rfl
theorem nt145: Tryz.f145.ntmps=68:=by kernel_rfl
noncomputable def body146:Code:=(Tryz.f146.body).getD .skip
theorem ok146:FnOk Tryz.prog 146 Tryz.f146 body146:=⟨by kernel_rfl,by kernel_rfl,by kernel_rfl,by kernel_rfl⟩
theorem rs146: Tryz.f146.results.toList=[.cell 6 201]:=by kernel_rfl
theorem nt146: Tryz.f146.ntmps=15:=by kernel_rfl
noncomputable def body147:Code:=(Tryz.f147.body).getD .skip
theorem ok147:FnOk Tryz.prog 147 Tryz.f147 body147:=⟨by kernel_rfl,by kernel_rfl,by kernel_rfl,by kernel_rfl⟩
theorem rs147: Tryz.f147.results.toList=[.tmp 4]:=by kernel_rfl
theorem nt147: Tryz.f147.ntmps=14:=by kernel_rfl
noncomputable def body148:Code:=(Tryz.f148.body).getD .skip
theorem ok148:FnOk Tryz.prog 148 Tryz.f148 body148:=⟨by kernel_rfl,by kernel_rfl,by kernel_rfl,by kernel_rfl⟩
theorem rs148: Tryz.f148.results.toList=[.tmp 2]:=by kernel_rfl
theorem nt148: Tryz.f148.ntmps=147:=by kernel_rfl
noncomputable def body149:Code:=(Tryz.f149.body).getD .skip
theorem ok149:FnOk Tryz.prog 149 Tryz.f149 body149:=⟨by kernel_rfl,by kernel_rfl,by kernel_rfl,by kernel_rfl⟩
theorem rs149: Tryz.f149.results.toList=[.tmp 2]:=by kernel_rfl
theorem nt149: Tryz.f149.ntmps=56:=by kernel_rfl
noncomputable def body150:Code:=(Tryz.f150.body).getD .skip
theorem ok150:FnOk Tryz.prog 150 Tryz.f150 body150:=⟨by kernel_rfl,by kernel_rfl,by kernel_rfl,by kernel_rfl⟩
theorem rs150: Tryz.f150.results.toList=[.tmp 4]:=by kernel_rfl
theorem nt150: Tryz.f150.ntmps=12:=by kernel_rfl
noncomputable def body151:Code:=(Tryz.f151.body).getD .skip
theorem ok151:FnOk Tryz.prog 151 Tryz.f151 body151:=⟨by kernel_rfl,by kernel_rfl,by kernel_rfl,by kernel_rfl⟩
theorem rs151: Tryz.f151.results.toList=[.tmp 6]:=by kernel_rfl
theorem nt151: Tryz.f151.ntmps=286:=by kernel_rfl
noncomputable def body152:Code:=(Tryz.f152.body).getD .skip
theorem ok152:FnOk Tryz.prog 152 Tryz.f152 body152:=⟨by kernel_rfl,by kernel_rfl,by kernel_rfl,by kernel_rfl⟩
theorem rs152: Tryz.f152.results.toList=[.tmp 4]:=by kernel_rfl
theorem nt152: Tryz.f152.ntmps=247:=by kernel_rfl
noncomputable def body153:Code:=(Tryz.f153.body).getD .skip
theorem ok153:FnOk Tryz.prog 153 Tryz.f153 body153:=⟨by kernel_rfl,by kernel_rfl,by kernel_rfl,by kernel_rfl⟩
theorem rs153: Tryz.f153.results.toList=[.cell 4 99]:=by kernel_rfl
theorem nt153: Tryz.f153.ntmps=42:=by kernel_rfl
noncomputable def body154:Code:=(Tryz.f154.body).getD .skip
theorem ok154:FnOk Tryz.prog 154 Tryz.f154 body154:=⟨by kernel_rfl,by kernel_rfl,by kernel_rfl,by kernel_rfl⟩
theorem rs154: Tryz.f154.results.toList=[.tmp 4]:=by kernel_rfl
theorem nt154: Tryz.f154.ntmps=19:=by kernel_rfl
noncomputable def body155:Code:=(Tryz.f155.body).getD .skip
theorem ok155:FnOk Tryz.prog 155 Tryz.f155 body155:=⟨by kernel_rfl,by kernel_rfl,by kernel_rfl,by kernel_rfl⟩
theorem rs155: Tryz.f155.results.toList=[.tmp 6]:=by kernel_rfl
theorem nt155: Tryz.f155.ntmps=34:=by kernel_rfl
noncomputable def body156:Code:=(Tryz.f156.body).getD .skip
theorem ok156:FnOk Tryz.prog 156 Tryz.f156 body156:=⟨by kernel_rfl,by kernel_rfl,by kernel_rfl,by kernel_rfl⟩
theorem rs156: Tryz.f156.results.toList=[.cell 6 26,.tmp 7]:=by kernel_rfl
theorem nt156: Tryz.f156.ntmps=38:=by kernel_rfl
noncomputable def body157:Code:=(Tryz.f157.body).getD .skip
theorem ok157:FnOk Tryz.prog 157 Tryz.f157 body157:=⟨by kernel_rfl,by kernel_rfl,by kernel_rfl,by kernel_rfl⟩
theorem rs157: Tryz.f157.results.toList=[.tmp 3]:=by kernel_rfl
theorem nt157: Tryz.f157.ntmps=8:=by kernel_rfl
noncomputable def body158:Code:=(Tryz.f158.body).getD .skip
theorem ok158:FnOk Tryz.prog 158 Tryz.f158 body158:=⟨by kernel_rfl,by kernel_rfl,by kernel_rfl,by kernel_rfl⟩
theorem rs158: Tryz.f158.results.toList=[.tmp 4]:=by kernel_rfl
theorem nt158: Tryz.f158.ntmps=19:=by kernel_rfl
noncomputable def body159:Code:=(Tryz.f159.body).getD .skip
theorem ok159:FnOk Tryz.prog 159 Tryz.f159 body159:=⟨by kernel_rfl,by kernel_rfl,by kernel_rfl,by kernel_rfl⟩
theorem rs159: Tryz.f159.results.toList=[.tmp 4]:=by kernel_rfl
theorem nt159: Tryz.f159.ntmps=19:=by kernel_rfl
noncomputable def body160:Code:=(Tryz.f160.body).getD .skip
theorem ok160:FnOk Tryz.prog 160 Tryz.f160 body160:=⟨by kernel_rfl,by kernel_rfl,by kernel_rfl,by kernel_rfl⟩
theorem rs160: Tryz.f160.results.toList=[.cell 4 120]:=by kernel_rfl
theorem nt160: Tryz.f160.ntmps=216:=by kernel_rfl
noncomputable def body161:Code:=(Tryz.f161.body).getD .skip
theorem ok161:FnOk Tryz.prog 161 Tryz.f161 body161:=⟨by kernel_rfl,by kernel_rfl,by kernel_rfl,by kernel_rfl⟩
theorem rs161: Tryz.f161.results.toList=[.tmp 2]:=by kernel_rfl
theorem nt161: Tryz.f161.ntmps=22:=by kernel_rfl
noncomputable def body162:Code:=(Tryz.f162.body).getD .skip
theorem ok162:FnOk Tryz.prog 162 Tryz.f162 body162:=⟨by kernel_rfl,by kernel_rfl,by kernel_rfl,by kernel_rfl⟩
theorem rs162: Tryz.f162.results.toList=[.tmp 8]:=by kernel_rfl
theorem nt162: Tryz.f162.ntmps=396:=by kernel_rfl
noncomputable def body163:Code:=(Tryz.f163.body).getD .skip
theorem ok163:FnOk Tryz.prog 163 Tryz.f163 body163:=⟨by kernel_rfl,by kernel_rfl,by kernel_rfl,by kernel_rfl⟩
theorem rs163: Tryz.f163.results.toList=[.tmp 4]:=by kernel_rfl
theorem nt163: Tryz.f163.ntmps=21:=by kernel_rfl
noncomputable def body164:Code:=(Tryz.f164.body).getD .skip
theorem ok164:FnOk Tryz.prog 164 Tryz.f164 body164:=⟨by kernel_rfl,by kernel_rfl,by kernel_rfl,by kernel_rfl⟩
theorem rs164: Tryz.f164.results.toList=[]:=by kernel_rfl
theorem nt164: Tryz.f164.ntmps=95:=by kernel_rfl
noncomputable def body165:Code:=(Tryz.f165.body).getD .skip
theorem ok165:FnOk Tryz.prog 165 Tryz.f165 body165:=⟨by kernel_rfl,by kernel_rfl,by kernel_rfl,by kernel_rfl⟩
theorem rs165: Tryz.f165.results.toList=[.tmp 8,.tmp 9]:=by kernel_rfl
theorem nt165: Tryz.f165.ntmps=194:=by kernel_rfl
noncomputable def body166:Code:=(Tryz.f166.body).getD .skip
theorem ok166:FnOk Tryz.prog 166 Tryz.f166 body166:=⟨by kernel_rfl,by kernel_rfl,by kernel_rfl,by kernel_rfl⟩
theorem rs166: Tryz.f166.results.toList=[.tmp 4]:=by kernel_rfl
theorem nt166: Tryz.f166.ntmps=24:=by kernel_rfl
noncomputable def body167:Code:=(Tryz.f167.body).getD .skip
theorem ok167:FnOk Tryz.prog 167 Tryz.f167 body167:=⟨by kernel_rfl,by kernel_rfl,by kernel_rfl,by kernel_rfl⟩
theorem rs167: Tryz.f167.results.toList=[.tmp 4,.tmp 5,.tmp 6]:=by kernel_rfl
theorem nt167: Tryz.f167.ntmps=42:=by kernel_rfl
noncomputable def body168:Code:=(Tryz.f168.body).getD .skip
theorem ok168:FnOk Tryz.prog 168 Tryz.f168 body168:=⟨by kernel_rfl,by kernel_rfl,by kernel_rfl,by kernel_rfl⟩
theorem rs168: Tryz.f168.results.toList=[.tmp 6]:=by kernel_rfl
theorem nt168: Tryz.f168.ntmps=59:=by kernel_rfl
noncomputable def body169:Code:=(Tryz.f169.body).getD .skip
theorem ok169:FnOk Tryz.prog 169 Tryz.f169 body169:=⟨by kernel_rfl,by kernel_rfl,by kernel_rfl,by kernel_rfl⟩
theorem rs169: Tryz.f169.results.toList=[.tmp 2]:=by kernel_rfl
theorem nt169: Tryz.f169.ntmps=61:=by kernel_rfl
noncomputable def body170:Code:=(Tryz.f170.body).getD .skip
theorem ok170:FnOk Tryz.prog 170 Tryz.f170 body170:=⟨by kernel_rfl,by kernel_rfl,by kernel_rfl,by kernel_rfl⟩
theorem rs170: Tryz.f170.results.toList=[.tmp 2]:=by kernel_rfl
theorem nt170: Tryz.f170.ntmps=9:=by kernel_rfl
noncomputable def body171:Code:=(Tryz.f171.body).getD .skip
theorem ok171:FnOk Tryz.prog 171 Tryz.f171 body171:=⟨by kernel_rfl,by kernel_rfl,by kernel_rfl,by kernel_rfl⟩
theorem rs171: Tryz.f171.results.toList=[]:=by kernel_rfl
theorem nt171: Tryz.f171.ntmps=70:=by kernel_rfl
noncomputable def body172:Code:=(Tryz.f172.body).getD .skip
theorem ok172:FnOk Tryz.prog 172 Tryz.f172 body172:=⟨by kernel_rfl,by kernel_rfl,by kernel_rfl,by kernel_rfl⟩
theorem rs172: Tryz.f172.results.toList=[.tmp 4]:=by kernel_rfl
theorem nt172: Tryz.f172.ntmps=47:=by kernel_rfl
noncomputable def body173:Code:=(Tryz.f173.body).getD .skip
theorem ok173:FnOk Tryz.prog 173 Tryz.f173 body173:=⟨by kernel_rfl,by kernel_rfl,by kernel_rfl,by kernel_rfl⟩
theorem rs173: Tryz.f173.results.toList=[.tmp 4]:=by kernel_rfl
theorem nt173: Tryz.f173.ntmps=19:=by kernel_rfl
noncomputable def body174:Code:=(Tryz.f174.body).getD .skip
theorem ok174:FnOk Tryz.prog 174 Tryz.f174 body174:=⟨by kernel_rfl,by kernel_rfl,by kernel_rfl,by kernel_rfl⟩
theorem rs174: Tryz.f174.results.toList=[.tmp 2]:=by kernel_rfl
theorem nt174: Tryz.f174.ntmps=8:=by kernel_rfl
noncomputable def body175:Code:=(Tryz.f175.body).getD .skip
theorem ok175:FnOk Tryz.prog 175 Tryz.f175 body175:=⟨by kernel_rfl,by kernel_rfl,by kernel_rfl,by kernel_rfl⟩
theorem rs175: Tryz.f175.results.toList=[.tmp 2]:=by kernel_rfl
theorem nt175: Tryz.f175.ntmps=8:=by kernel_rfl
noncomputable def body176:Code:=(Tryz.f176.body).getD .skip
theorem ok176:FnOk Tryz.prog 176 Tryz.f176 body176:=⟨by kernel_rfl,by kernel_rfl,by kernel_rfl,by kernel_rfl⟩
theorem rs176: Tryz.f176.results.toList=[.tmp 4]:=by kernel_rfl
theorem nt176: Tryz.f176.ntmps=22:=by kernel_rfl
noncomputable def body177:Code:=(Tryz.f177.body).getD .skip
theorem ok177:FnOk Tryz.prog 177 Tryz.f177 body177:=⟨by kernel_rfl,by kernel_rfl,by kernel_rfl,by kernel_rfl⟩
theorem rs177: Tryz.f177.results.toList=[.cell 2 69]:=by kernel_rfl
theorem nt177: Tryz.f177.ntmps=28:=by kernel_rfl
noncomputable def body178:Code:=(Tryz.f178.body).getD .skip
theorem ok178:FnOk Tryz.prog 178 Tryz.f178 body178:=⟨by kernel_rfl,by kernel_rfl,by kernel_rfl,by kernel_rfl⟩
theorem rs178: Tryz.f178.results.toList=[.cell 2 45]:=by kernel_rfl
theorem nt178: Tryz.f178.ntmps=8:=by kernel_rfl
noncomputable def body179:Code:=(Tryz.f179.body).getD .skip
theorem ok179:FnOk Tryz.prog 179 Tryz.f179 body179:=⟨by kernel_rfl,by kernel_rfl,by kernel_rfl,by kernel_rfl⟩
theorem rs179: Tryz.f179.results.toList=[.tmp 2]:=by kernel_rfl
theorem nt179: Tryz.f179.ntmps=8:=by kernel_rfl
noncomputable def body180:Code:=(Tryz.f180.body).getD .skip
theorem ok180:FnOk Tryz.prog 180 Tryz.f180 body180:=⟨by kernel_rfl,by kernel_rfl,by kernel_rfl,by kernel_rfl⟩
theorem rs180: Tryz.f180.results.toList=[.tmp 0,.tmp 1]:=by kernel_rfl
theorem nt180: Tryz.f180.ntmps=32:=by kernel_rfl
noncomputable def body181:Code:=(Tryz.f181.body).getD .skip
theorem ok181:FnOk Tryz.prog 181 Tryz.f181 body181:=⟨by kernel_rfl,by kernel_rfl,by kernel_rfl,by kernel_rfl⟩
theorem rs181: Tryz.f181.results.toList=[.tmp 3]:=by kernel_rfl
theorem nt181: Tryz.f181.ntmps=8:=by kernel_rfl
noncomputable def body182:Code:=(Tryz.f182.body).getD .skip
theorem ok182:FnOk Tryz.prog 182 Tryz.f182 body182:=⟨by kernel_rfl,by kernel_rfl,by kernel_rfl,by kernel_rfl⟩
theorem rs182: Tryz.f182.results.toList=[.tmp 4,.tmp 5]:=by kernel_rfl
theorem nt182: Tryz.f182.ntmps=19:=by kernel_rfl
noncomputable def body183:Code:=(Tryz.f183.body).getD .skip
theorem ok183:FnOk Tryz.prog 183 Tryz.f183 body183:=⟨by kernel_rfl,by kernel_rfl,by kernel_rfl,by kernel_rfl⟩
theorem rs183: Tryz.f183.results.toList=[.tmp 4]:=by kernel_rfl
theorem nt183: Tryz.f183.ntmps=75:=by kernel_rfl
noncomputable def body184:Code:=(Tryz.f184.body).getD .skip
theorem ok184:FnOk Tryz.prog 184 Tryz.f184 body184:=⟨by kernel_rfl,by kernel_rfl,by kernel_rfl,by kernel_rfl⟩
theorem rs184: Tryz.f184.results.toList=[.tmp 2]:=by kernel_rfl
theorem nt184: Tryz.f184.ntmps=5:=by kernel_rfl
noncomputable def body185:Code:=(Tryz.f185.body).getD .skip
theorem ok185:FnOk Tryz.prog 185 Tryz.f185 body185:=⟨by kernel_rfl,by kernel_rfl,by kernel_rfl,by kernel_rfl⟩
theorem rs185: Tryz.f185.results.toList=[.tmp 4]:=by kernel_rfl
theorem nt185: Tryz.f185.ntmps=22:=by kernel_rfl
noncomputable def body186:Code:=(Tryz.f186.body).getD .skip
theorem ok186:FnOk Tryz.prog 186 Tryz.f186 body186:=⟨by kernel_rfl,by kernel_rfl,by kernel_rfl,by kernel_rfl⟩
theorem rs186: Tryz.f186.results.toList=[.tmp 4]:=by kernel_rfl
theorem nt186: Tryz.f186.ntmps=22:=by kernel_rfl
noncomputable def body187:Code:=(Tryz.f187.body).getD .skip
theorem ok187:FnOk Tryz.prog 187 Tryz.f187 body187:=⟨by kernel_rfl,by kernel_rfl,by kernel_rfl,by kernel_rfl⟩
theorem rs187: Tryz.f187.results.toList=[.tmp 2]:=by kernel_rfl
theorem nt187: Tryz.f187.ntmps=5:=by kernel_rfl
noncomputable def body188:Code:=(Tryz.f188.body).getD .skip
theorem ok188:FnOk Tryz.prog 188 Tryz.f188 body188:=⟨by kernel_rfl,by kernel_rfl,by kernel_rfl,by kernel_rfl⟩
theorem rs188: Tryz.f188.results.toList=[]:=by kernel_rfl
theorem nt188: Tryz.f188.ntmps=148:=by kernel_rfl
noncomputable def body189:Code:=(Tryz.f189.body).getD .skip
theorem ok189:FnOk Tryz.prog 189 Tryz.f189 body189:=⟨by kernel_rfl,by kernel_rfl,by kernel_rfl,by kernel_rfl⟩
theorem rs189: Tryz.f189.results.toList=[.tmp 2]:=by kernel_rfl
theorem nt189: Tryz.f189.ntmps=8:=by kernel_rfl
noncomputable def body190:Code:=(Tryz.f190.body).getD .skip
theorem ok190:FnOk Tryz.prog 190 Tryz.f190 body190:=⟨by kernel_rfl,by kernel_rfl,by kernel_rfl,by kernel_rfl⟩
theorem rs190: Tryz.f190.results.toList=[.tmp 4]:=by kernel_rfl
theorem nt190: Tryz.f190.ntmps=24:=by kernel_rfl
noncomputable def body191:Code:=(Tryz.f191.body).getD .skip
theorem ok191:FnOk Tryz.prog 191 Tryz.f191 body191:=⟨by kernel_rfl,by kernel_rfl,by kernel_rfl,by kernel_rfl⟩
theorem rs191: Tryz.f191.results.toList=[.tmp 4]:=by kernel_rfl
theorem nt191: Tryz.f191.ntmps=22:=by kernel_rfl
noncomputable def body192:Code:=(Tryz.f192.body).getD .skip
theorem ok192:FnOk Tryz.prog 192 Tryz.f192 body192:=⟨by kernel_rfl,by kernel_rfl,by kernel_rfl,by kernel_rfl⟩
theorem rs192: Tryz.f192.results.toList=[]:=by kernel_rfl
theorem nt192: Tryz.f192.ntmps=25:=by kernel_rfl
noncomputable def body193:Code:=(Tryz.f193.body).getD .skip
theorem ok193:FnOk Tryz.prog 193 Tryz.f193 body193:=⟨by kernel_rfl,by kernel_rfl,by kernel_rfl,by kernel_rfl⟩
theorem rs193: Tryz.f193.results.toList=[.tmp 4]:=by kernel_rfl
theorem nt193: Tryz.f193.ntmps=8:=by kernel_rfl
noncomputable def body194:Code:=(Tryz.f194.body).getD .skip
theorem ok194:FnOk Tryz.prog 194 Tryz.f194 body194:=⟨by kernel_rfl,by kernel_rfl,by kernel_rfl,by kernel_rfl⟩
theorem rs194: Tryz.f194.results.toList=[.tmp 8]:=by kernel_rfl
theorem nt194: Tryz.f194.ntmps=66:=by kernel_rfl
noncomputable def body195:Code:=(Tryz.f195.body).getD .skip
theorem ok195:FnOk Tryz.prog 195 Tryz.f195 body195:=⟨by kernel_rfl,by kernel_rfl,by kernel_rfl,by kernel_rfl⟩
theorem rs195: Tryz.f195.results.toList=[.tmp 4]:=by kernel_rfl
theorem nt195: Tryz.f195.ntmps=16:=by kernel_rfl
noncomputable def body196:Code:=(Tryz.f196.body).getD .skip
theorem ok196:FnOk Tryz.prog 196 Tryz.f196 body196:=⟨by kernel_rfl,by kernel_rfl,by kernel_rfl,by kernel_rfl⟩
theorem rs196: Tryz.f196.results.toList=[.tmp 6]:=by kernel_rfl
theorem nt196: Tryz.f196.ntmps=33:=by kernel_rfl
noncomputable def body197:Code:=(Tryz.f197.body).getD .skip
theorem ok197:FnOk Tryz.prog 197 Tryz.f197 body197:=⟨by kernel_rfl,by kernel_rfl,by kernel_rfl,by kernel_rfl⟩
theorem rs197: Tryz.f197.results.toList=[.tmp 2]:=by kernel_rfl
theorem nt197: Tryz.f197.ntmps=20:=by kernel_rfl
noncomputable def body198:Code:=(Tryz.f198.body).getD .skip
theorem ok198:FnOk Tryz.prog 198 Tryz.f198 body198:=⟨by kernel_rfl,by kernel_rfl,by kernel_rfl,by kernel_rfl⟩
theorem rs198: Tryz.f198.results.toList=[.tmp 2]:=by kernel_rfl
theorem nt198: Tryz.f198.ntmps=11:=by kernel_rfl
noncomputable def body199:Code:=(Tryz.f199.body).getD .skip
theorem ok199:FnOk Tryz.prog 199 Tryz.f199 body199:=⟨by kernel_rfl,by kernel_rfl,by kernel_rfl,by kernel_rfl⟩
theorem rs199: Tryz.f199.results.toList=[.tmp 4]:=by kernel_rfl
theorem nt199: Tryz.f199.ntmps=22:=by kernel_rfl
noncomputable def body200:Code:=(Tryz.f200.body).getD .skip
theorem ok200:FnOk Tryz.prog 200 Tryz.f200 body200:=⟨by kernel_rfl,by kernel_rfl,by kernel_rfl,by kernel_rfl⟩
theorem rs200: Tryz.f200.results.toList=[.tmp 4]:=by kernel_rfl
theorem nt200: Tryz.f200.ntmps=23:=by kernel_rfl
noncomputable def body201:Code:=(Tryz.f201.body).getD .skip
theorem ok201:FnOk Tryz.prog 201 Tryz.f201 body201:=⟨by kernel_rfl,by kernel_rfl,by kernel_rfl,by kernel_rfl⟩
theorem rs201: Tryz.f201.results.toList=[.cell 4 45]:=by kernel_rfl
theorem nt201: Tryz.f201.ntmps=33:=by kernel_rfl
noncomputable def body202:Code:=(Tryz.f202.body).getD .skip
theorem ok202:FnOk Tryz.prog 202 Tryz.f202 body202:=⟨by kernel_rfl,by kernel_rfl,by kernel_rfl,by kernel_rfl⟩
theorem rs202: Tryz.f202.results.toList=[.cell 2 48]:=by kernel_rfl
theorem nt202: Tryz.f202.ntmps=66:=by kernel_rfl
noncomputable def body203:Code:=(Tryz.f203.body).getD .skip
theorem ok203:FnOk Tryz.prog 203 Tryz.f203 body203:=⟨by kernel_rfl,by kernel_rfl,by kernel_rfl,by kernel_rfl⟩
theorem rs203: Tryz.f203.results.toList=[]:=by kernel_rfl
theorem nt203: Tryz.f203.ntmps=6:=by kernel_rfl
noncomputable def body204:Code:=(Tryz.f204.body).getD .skip
theorem ok204:FnOk Tryz.prog 204 Tryz.f204 body204:=⟨by kernel_rfl,by kernel_rfl,by kernel_rfl,by kernel_rfl⟩
theorem rs204: Tryz.f204.results.toList=[.tmp 4]:=by kernel_rfl
theorem nt204: Tryz.f204.ntmps=9:=by kernel_rfl
noncomputable def body205:Code:=(Tryz.f205.body).getD .skip
theorem ok205:FnOk Tryz.prog 205 Tryz.f205 body205:=⟨by kernel_rfl,by kernel_rfl,by kernel_rfl,by kernel_rfl⟩
theorem rs205: Tryz.f205.results.toList=[.tmp 2]:=by kernel_rfl
theorem nt205: Tryz.f205.ntmps=9:=by kernel_rfl
noncomputable def body206:Code:=(Tryz.f206.body).getD .skip
theorem ok206:FnOk Tryz.prog 206 Tryz.f206 body206:=⟨by kernel_rfl,by kernel_rfl,by kernel_rfl,by kernel_rfl⟩
theorem rs206: Tryz.f206.results.toList=[.tmp 3]:=by kernel_rfl
theorem nt206: Tryz.f206.ntmps=11:=by kernel_rfl
noncomputable def body207:Code:=(Tryz.f207.body).getD .skip
theorem ok207:FnOk Tryz.prog 207 Tryz.f207 body207:=⟨by kernel_rfl,by kernel_rfl,by kernel_rfl,by kernel_rfl⟩
theorem rs207: Tryz.f207.results.toList=[.tmp 4]:=by kernel_rfl
theorem nt207: Tryz.f207.ntmps=19:=by kernel_rfl
noncomputable def body208:Code:=(Tryz.f208.body).getD .skip
theorem ok208:FnOk Tryz.prog 208 Tryz.f208 body208:=⟨by kernel_rfl,by kernel_rfl,by kernel_rfl,by kernel_rfl⟩
theorem rs208: Tryz.f208.results.toList=[.tmp 2]:=by kernel_rfl
theorem nt208: Tryz.f208.ntmps=17:=by kernel_rfl
noncomputable def body209:Code:=(Tryz.f209.body).getD .skip
theorem ok209:FnOk Tryz.prog 209 Tryz.f209 body209:=⟨by kernel_rfl,by kernel_rfl,by kernel_rfl,by kernel_rfl⟩
theorem rs209: Tryz.f209.results.toList=[.tmp 4]:=by kernel_rfl
theorem nt209: Tryz.f209.ntmps=12:=by kernel_rfl
noncomputable def body210:Code:=(Tryz.f210.body).getD .skip
theorem ok210:FnOk Tryz.prog 210 Tryz.f210 body210:=⟨by kernel_rfl,by kernel_rfl,by kernel_rfl,by kernel_rfl⟩
theorem rs210: Tryz.f210.results.toList=[.tmp 4]:=by kernel_rfl
theorem nt210: Tryz.f210.ntmps=19:=by kernel_rfl
noncomputable def body211:Code:=(Tryz.f211.body).getD .skip
theorem ok211:FnOk Tryz.prog 211 Tryz.f211 body211:=⟨by kernel_rfl,by kernel_rfl,by kernel_rfl,by kernel_rfl⟩
theorem rs211: Tryz.f211.results.toList=[.tmp 6]:=by kernel_rfl
theorem nt211: Tryz.f211.ntmps=91:=by kernel_rfl
noncomputable def body212:Code:=(Tryz.f212.body).getD .skip
theorem ok212:FnOk Tryz.prog 212 Tryz.f212 body212:=⟨by kernel_rfl,by kernel_rfl,by kernel_rfl,by kernel_rfl⟩
theorem rs212: Tryz.f212.results.toList=[.tmp 4]:=by kernel_rfl
theorem nt212: Tryz.f212.ntmps=50:=by kernel_rfl
noncomputable def body213:Code:=(Tryz.f213.body).getD .skip
theorem ok213:FnOk Tryz.prog 213 Tryz.f213 body213:=⟨by kernel_rfl,by kernel_rfl,by kernel_rfl,by kernel_rfl⟩
theorem rs213: Tryz.f213.results.toList=[.tmp 4]:=by kernel_rfl
theorem nt213: Tryz.f213.ntmps=9:=by kernel_rfl
noncomputable def body214:Code:=(Tryz.f214.body).getD .skip
theorem ok214:FnOk Tryz.prog 214 Tryz.f214 body214:=⟨by kernel_rfl,by kernel_rfl,by kernel_rfl,by kernel_rfl⟩
theorem rs214: Tryz.f214.results.toList=[.tmp 2]:=by kernel_rfl
theorem nt214: Tryz.f214.ntmps=53:=by kernel_rfl
noncomputable def body215:Code:=(Tryz.f215.body).getD .skip
theorem ok215:FnOk Tryz.prog 215 Tryz.f215 body215:=⟨by kernel_rfl,by kernel_rfl,by kernel_rfl,by kernel_rfl⟩
theorem rs215: Tryz.f215.results.toList=[.tmp 6]:=by kernel_rfl
theorem nt215: Tryz.f215.ntmps=26:=by kernel_rfl
noncomputable def body216:Code:=(Tryz.f216.body).getD .skip
theorem ok216:FnOk Tryz.prog 216 Tryz.f216 body216:=⟨by kernel_rfl,by kernel_rfl,by kernel_rfl,by kernel_rfl⟩
theorem rs216: Tryz.f216.results.toList=[.tmp 4]:=by kernel_rfl
theorem nt216: Tryz.f216.ntmps=10:=by kernel_rfl
noncomputable def body217:Code:=(Tryz.f217.body).getD .skip
theorem ok217:FnOk Tryz.prog 217 Tryz.f217 body217:=⟨by kernel_rfl,by kernel_rfl,by kernel_rfl,by kernel_rfl⟩
theorem rs217: Tryz.f217.results.toList=[.cell 0 201]:=by kernel_rfl
theorem nt217: Tryz.f217.ntmps=10:=by kernel_rfl
noncomputable def body218:Code:=(Tryz.f218.body).getD .skip
theorem ok218:FnOk Tryz.prog 218 Tryz.f218 body218:=⟨by kernel_rfl,by kernel_rfl,by kernel_rfl,by kernel_rfl⟩
theorem rs218: Tryz.f218.results.toList=[.cell 4 201]:=by kernel_rfl
theorem nt218: Tryz.f218.ntmps=17:=by kernel_rfl
noncomputable def body219:Code:=(Tryz.f219.body).getD .skip
theorem ok219:FnOk Tryz.prog 219 Tryz.f219 body219:=⟨by kernel_rfl,by kernel_rfl,by kernel_rfl,by kernel_rfl⟩
theorem rs219: Tryz.f219.results.toList=[.cell 4 201]:=by kernel_rfl
theorem nt219: Tryz.f219.ntmps=19:=by kernel_rfl
noncomputable def body220:Code:=(Tryz.f220.body).getD .skip
theorem ok220:FnOk Tryz.prog 220 Tryz.f220 body220:=⟨by kernel_rfl,by kernel_rfl,by kernel_rfl,by kernel_rfl⟩
theorem rs220: Tryz.f220.results.toList=[.tmp 2]:=by kernel_rfl
theorem nt220: Tryz.f220.ntmps=5:=by kernel_rfl
noncomputable def body221:Code:=(Tryz.f221.body).getD .skip
theorem ok221:FnOk Tryz.prog 221 Tryz.f221 body221:=⟨by kernel_rfl,by kernel_rfl,by kernel_rfl,by kernel_rfl⟩
theorem rs221: Tryz.f221.results.toList=[.cell 4 201]:=by kernel_rfl
theorem nt221: Tryz.f221.ntmps=17:=by kernel_rfl
noncomputable def body222:Code:=(Tryz.f222.body).getD .skip
theorem ok222:FnOk Tryz.prog 222 Tryz.f222 body222:=⟨by kernel_rfl,by kernel_rfl,by kernel_rfl,by kernel_rfl⟩
theorem rs222: Tryz.f222.results.toList=[.tmp 4]:=by kernel_rfl
theorem nt222: Tryz.f222.ntmps=23:=by kernel_rfl
noncomputable def body223:Code:=(Tryz.f223.body).getD .skip
theorem ok223:FnOk Tryz.prog 223 Tryz.f223 body223:=⟨by kernel_rfl,by kernel_rfl,by kernel_rfl,by kernel_rfl⟩
theorem rs223: Tryz.f223.results.toList=[.tmp 2]:=by kernel_rfl
theorem nt223: Tryz.f223.ntmps=23:=by kernel_rfl
noncomputable def body224:Code:=(Tryz.f224.body).getD .skip
theorem ok224:FnOk Tryz.prog 224 Tryz.f224 body224:=⟨by kernel_rfl,by kernel_rfl,by kernel_rfl,by kernel_rfl⟩
theorem rs224: Tryz.f224.results.toList=[.tmp 2]:=by kernel_rfl
theorem nt224: Tryz.f224.ntmps=35:=by kernel_rfl
noncomputable def body225:Code:=(Tryz.f225.body).getD .skip
theorem ok225:FnOk Tryz.prog 225 Tryz.f225 body225:=⟨by kernel_rfl,by kernel_rfl,by kernel_rfl,by kernel_rfl⟩
theorem rs225: Tryz.f225.results.toList=[.tmp 4]:=by kernel_rfl
theorem nt225: Tryz.f225.ntmps=54:=by kernel_rfl
noncomputable def body226:Code:=(Tryz.f226.body).getD .skip
theorem ok226:FnOk Tryz.prog 226 Tryz.f226 body226:=⟨by kernel_rfl,by kernel_rfl,by kernel_rfl,by kernel_rfl⟩
theorem rs226: Tryz.f226.results.toList=[.tmp 6]:=by kernel_rfl
theorem nt226: Tryz.f226.ntmps=43:=by kernel_rfl
noncomputable def body227:Code:=(Tryz.f227.body).getD .skip
theorem ok227:FnOk Tryz.prog 227 Tryz.f227 body227:=⟨by kernel_rfl,by kernel_rfl,by kernel_rfl,by kernel_rfl⟩
theorem rs227: Tryz.f227.results.toList=[.tmp 6]:=by kernel_rfl
theorem nt227: Tryz.f227.ntmps=30:=by kernel_rfl
noncomputable def body228:Code:=(Tryz.f228.body).getD .skip
theorem ok228:FnOk Tryz.prog 228 Tryz.f228 body228:=⟨by kernel_rfl,by kernel_rfl,by kernel_rfl,by kernel_rfl⟩
theorem rs228: Tryz.f228.results.toList=[.tmp 4]:=by kernel_rfl
theorem nt228: Tryz.f228.ntmps=21:=by kernel_rfl
noncomputable def body229:Code:=(Tryz.f229.body).getD .skip
theorem ok229:FnOk Tryz.prog 229 Tryz.f229 body229:=⟨by kernel_rfl,by kernel_rfl,by kernel_rfl,by kernel_rfl⟩
theorem rs229: Tryz.f229.results.toList=[.tmp 6]:=by kernel_rfl
theorem nt229: Tryz.f229.ntmps=34:=by kernel_rfl
noncomputable def body230:Code:=(Tryz.f230.body).getD .skip
theorem ok230:FnOk Tryz.prog 230 Tryz.f230 body230:=⟨by kernel_rfl,by kernel_rfl,by kernel_rfl,by kernel_rfl⟩
theorem rs230: Tryz.f230.results.toList=[.tmp 4]:=by kernel_rfl
theorem nt230: Tryz.f230.ntmps=93:=by kernel_rfl
noncomputable def body231:Code:=(Tryz.f231.body).getD .skip
theorem ok231:FnOk Tryz.prog 231 Tryz.f231 body231:=⟨by kernel_rfl,by kernel_rfl,by kernel_rfl,by kernel_rfl⟩
theorem rs231: Tryz.f231.results.toList=[.tmp 4]:=by kernel_rfl
theorem nt231: Tryz.f231.ntmps=115:=by kernel_rfl
noncomputable def body232:Code:=(Tryz.f232.body).getD .skip
theorem ok232:FnOk Tryz.prog 232 Tryz.f232 body232:=⟨by kernel_rfl,by kernel_rfl,by kernel_rfl,by kernel_rfl⟩
theorem rs232: Tryz.f232.results.toList=[.tmp 4]:=by kernel_rfl
theorem nt232: Tryz.f232.ntmps=67:=by kernel_rfl
noncomputable def body233:Code:=(Tryz.f233.body).getD .skip
theorem ok233:FnOk Tryz.prog 233 Tryz.f233 body233:=⟨by kernel_rfl,by kernel_rfl,by kernel_rfl,by kernel_rfl⟩
theorem rs233: Tryz.f233.results.toList=[.tmp 0]:=by kernel_rfl
theorem nt233: Tryz.f233.ntmps=3:=by kernel_rfl
noncomputable def body234:Code:=(Tryz.f234.body).getD .skip
theorem ok234:FnOk Tryz.prog 234 Tryz.f234 body234:=⟨by kernel_rfl,by kernel_rfl,by kernel_rfl,by kernel_rfl⟩
theorem rs234: Tryz.f234.results.toList=[]:=by kernel_rfl
theorem nt234: Tryz.f234.ntmps=16:=by kernel_rfl
noncomputable def body235:Code:=(Tryz.f235.body).getD .skip
theorem ok235:FnOk Tryz.prog 235 Tryz.f235 body235:=⟨by kernel_rfl,by kernel_rfl,by kernel_rfl,by kernel_rfl⟩
theorem rs235: Tryz.f235.results.toList=[]:=by kernel_rfl
theorem nt235: Tryz.f235.ntmps=105:=by kernel_rfl
noncomputable def body236:Code:=(Tryz.f236.body).getD .skip
theorem ok236:FnOk Tryz.prog 236 Tryz.f236 body236:=⟨by kernel_rfl,by kernel_rfl,by kernel_rfl,by kernel_rfl⟩
theorem rs236: Tryz.f236.results.toList=[.cell 4 120]:=by kernel_rfl
theorem nt236: Tryz.f236.ntmps=16:=by kernel_rfl
noncomputable def body237:Code:=(Tryz.f237.body).getD .skip
theorem ok237:FnOk Tryz.prog 237 Tryz.f237 body237:=⟨by kernel_rfl,by kernel_rfl,by kernel_rfl,by kernel_rfl⟩
theorem rs237: Tryz.f237.results.toList=[.cell 4 26]:=by kernel_rfl
theorem nt237: Tryz.f237.ntmps=17:=by kernel_rfl
noncomputable def body238:Code:=(Tryz.f238.body).getD .skip
theorem ok238:FnOk Tryz.prog 238 Tryz.f238 body238:=⟨by kernel_rfl,by kernel_rfl,by kernel_rfl,by kernel_rfl⟩
theorem rs238: Tryz.f238.results.toList=[.tmp 4]:=by kernel_rfl
theorem nt238: Tryz.f238.ntmps=26:=by kernel_rfl
noncomputable def body239:Code:=(Tryz.f239.body).getD .skip
theorem ok239:FnOk Tryz.prog 239 Tryz.f239 body239:=⟨by kernel_rfl,by kernel_rfl,by kernel_rfl,by kernel_rfl⟩
theorem rs239: Tryz.f239.results.toList=[.tmp 6]:=by kernel_rfl
theorem nt239: Tryz.f239.ntmps=231:=by kernel_rfl
noncomputable def body240:Code:=(Tryz.f240.body).getD .skip
theorem ok240:FnOk Tryz.prog 240 Tryz.f240 body240:=⟨by kernel_rfl,by kernel_rfl,by kernel_rfl,by kernel_rfl⟩
theorem rs240: Tryz.f240.results.toList=[.tmp 6]:=by kernel_rfl
theorem nt240: Tryz.f240.ntmps=61:=by kernel_rfl
noncomputable def body241:Code:=(Tryz.f241.body).getD .skip
theorem ok241:FnOk Tryz.prog 241 Tryz.f241 body241:=⟨by kernel_rfl,by kernel_rfl,by kernel_rfl,by kernel_rfl⟩
theorem rs241: Tryz.f241.results.toList=[.tmp 6]:=by kernel_rfl
theorem nt241: Tryz.f241.ntmps=28:=by kernel_rfl
noncomputable def body242:Code:=(Tryz.f242.body).getD .skip
theorem ok242:FnOk Tryz.prog 242 Tryz.f242 body242:=⟨by kernel_rfl,by kernel_rfl,by kernel_rfl,by kernel_rfl⟩
theorem rs242: Tryz.f242.results.toList=[.tmp 2]:=by kernel_rfl
theorem nt242: Tryz.f242.ntmps=4:=by kernel_rfl
noncomputable def body243:Code:=(Tryz.f243.body).getD .skip
theorem ok243:FnOk Tryz.prog 243 Tryz.f243 body243:=⟨by kernel_rfl,by kernel_rfl,by kernel_rfl,by kernel_rfl⟩
theorem rs243: Tryz.f243.results.toList=[.tmp 4]:=by kernel_rfl
theorem nt243: Tryz.f243.ntmps=29:=by kernel_rfl
noncomputable def body244:Code:=(Tryz.f244.body).getD .skip
theorem ok244:FnOk Tryz.prog 244 Tryz.f244 body244:=⟨by kernel_rfl,by kernel_rfl,by kernel_rfl,by kernel_rfl⟩
theorem rs244: Tryz.f244.results.toList=[.tmp 10]:=by kernel_rfl
theorem nt244: Tryz.f244.ntmps=34:=by kernel_rfl
noncomputable def body245:Code:=(Tryz.f245.body).getD .skip
theorem ok245:FnOk Tryz.prog 245 Tryz.f245 body245:=⟨by kernel_rfl,by kernel_rfl,by kernel_rfl,by kernel_rfl⟩
theorem rs245: Tryz.f245.results.toList=[.tmp 2]:=by kernel_rfl
theorem nt245: Tryz.f245.ntmps=6:=by kernel_rfl
noncomputable def body246:Code:=(Tryz.f246.body).getD .skip
theorem ok246:FnOk Tryz.prog 246 Tryz.f246 body246:=⟨by kernel_rfl,by kernel_rfl,by kernel_rfl,by kernel_rfl⟩
theorem rs246: Tryz.f246.results.toList=[.tmp 6,.tmp 7]:=by kernel_rfl
theorem nt246: Tryz.f246.ntmps=46:=by kernel_rfl
noncomputable def body247:Code:=(Tryz.f247.body).getD .skip
theorem ok247:FnOk Tryz.prog 247 Tryz.f247 body247:=⟨by kernel_rfl,by kernel_rfl,by kernel_rfl,by kernel_rfl⟩
theorem rs247: Tryz.f247.results.toList=[.tmp 2]:=by kernel_rfl
theorem nt247: Tryz.f247.ntmps=5:=by kernel_rfl
noncomputable def body248:Code:=(Tryz.f248.body).getD .skip
theorem ok248:FnOk Tryz.prog 248 Tryz.f248 body248:=⟨by kernel_rfl,by kernel_rfl,by kernel_rfl,by kernel_rfl⟩
theorem rs248: Tryz.f248.results.toList=[]:=by kernel_rfl
theorem nt248: Tryz.f248.ntmps=11:=by kernel_rfl
noncomputable def body249:Code:=(Tryz.f249.body).getD .skip
theorem ok249:FnOk Tryz.prog 249 Tryz.f249 body249:=⟨by kernel_rfl,by kernel_rfl,by kernel_rfl,by kernel_rfl⟩
theorem rs249: Tryz.f249.results.toList=[]:=by kernel_rfl
theorem nt249: Tryz.f249.ntmps=20:=by kernel_rfl
noncomputable def body250:Code:=(Tryz.f250.body).getD .skip
theorem ok250:FnOk Tryz.prog 250 Tryz.f250 body250:=⟨by kernel_rfl,by kernel_rfl,by kernel_rfl,by kernel_rfl⟩
theorem rs250: Tryz.f250.results.toList=[]:=by kernel_rfl
theorem nt250: Tryz.f250.ntmps=25:=by kernel_rfl
noncomputable def body251:Code:=(Tryz.f251.body).getD .skip
theorem ok251:FnOk Tryz.prog 251 Tryz.f251 body251:=⟨by kernel_rfl,by kernel_rfl,by kernel_rfl,by kernel_rfl⟩
theorem rs251: Tryz.f251.results.toList=[.tmp 4]:=by kernel_rfl
theorem nt251: Tryz.f251.ntmps=54:=by kernel_rfl
noncomputable def body252:Code:=(Tryz.f252.body).getD .skip
theorem ok252:FnOk Tryz.prog 252 Tryz.f252 body252:=⟨by kernel_rfl,by kernel_rfl,by kernel_rfl,by kernel_rfl⟩
theorem rs252: Tryz.f252.results.toList=[]:=by kernel_rfl
theorem nt252: Tryz.f252.ntmps=53:=by kernel_rfl
noncomputable def body253:Code:=(Tryz.f253.body).getD .skip
theorem ok253:FnOk Tryz.prog 253 Tryz.f253 body253:=⟨by kernel_rfl,by kernel_rfl,by kernel_rfl,by kernel_rfl⟩
theorem rs253: Tryz.f253.results.toList=[]:=by kernel_rfl
theorem nt253: Tryz.f253.ntmps=60:=by kernel_rfl
noncomputable def body254:Code:=(Tryz.f254.body).getD .skip
theorem ok254:FnOk Tryz.prog 254 Tryz.f254 body254:=⟨by kernel_rfl,by kernel_rfl,by kernel_rfl,by kernel_rfl⟩
theorem rs254: Tryz.f254.results.toList=[]:=by kernel_rfl
theorem nt254: Tryz.f254.ntmps=67:=by kernel_rfl
noncomputable def body255:Code:=(Tryz.f255.body).getD .skip
theorem ok255:FnOk Tryz.prog 255 Tryz.f255 body255:=⟨by kernel_rfl,by kernel_rfl,by kernel_rfl,by kernel_rfl⟩
theorem rs255: Tryz.f255.results.toList=[.tmp 8,.tmp 9]:=by kernel_rfl
theorem nt255: Tryz.f255.ntmps=63:=by kernel_rfl
noncomputable def body256:Code:=(Tryz.f256.body).getD .skip
theorem ok256:FnOk Tryz.prog 256 Tryz.f256 body256:=⟨by kernel_rfl,by kernel_rfl,by kernel_rfl,by kernel_rfl⟩
theorem rs256: Tryz.f256.results.toList=[]:=by kernel_rfl
theorem nt256: Tryz.f256.ntmps=34:=by kernel_rfl
noncomputable def body257:Code:=(Tryz.f257.body).getD .skip
theorem ok257:FnOk Tryz.prog 257 Tryz.f257 body257:=⟨by kernel_rfl,by kernel_rfl,by kernel_rfl,by kernel_rfl⟩
theorem rs257: Tryz.f257.results.toList=[.tmp 8]:=by kernel_rfl
theorem nt257: Tryz.f257.ntmps=141:=by kernel_rfl
noncomputable def body258:Code:=(Tryz.f258.body).getD .skip
theorem ok258:FnOk Tryz.prog 258 Tryz.f258 body258:=⟨by kernel_rfl,by kernel_rfl,by kernel_rfl,by kernel_rfl⟩
theorem rs258: Tryz.f258.results.toList=[.tmp 10]:=by kernel_rfl
theorem nt258: Tryz.f258.ntmps=90:=by kernel_rfl
noncomputable def body259:Code:=(Tryz.f259.body).getD .skip
theorem ok259:FnOk Tryz.prog 259 Tryz.f259 body259:=⟨by kernel_rfl,by kernel_rfl,by kernel_rfl,by kernel_rfl⟩
theorem rs259: Tryz.f259.results.toList=[.tmp 10,.tmp 11]:=by kernel_rfl
theorem nt259: Tryz.f259.ntmps=178:=by kernel_rfl
noncomputable def body260:Code:=(Tryz.f260.body).getD .skip
theorem ok260:FnOk Tryz.prog 260 Tryz.f260 body260:=⟨by kernel_rfl,by kernel_rfl,by kernel_rfl,by kernel_rfl⟩
theorem rs260: Tryz.f260.results.toList=[.tmp 2]:=by kernel_rfl
theorem nt260: Tryz.f260.ntmps=19:=by kernel_rfl
noncomputable def body261:Code:=(Tryz.f261.body).getD .skip
theorem ok261:FnOk Tryz.prog 261 Tryz.f261 body261:=⟨by kernel_rfl,by kernel_rfl,by kernel_rfl,by kernel_rfl⟩
theorem rs261: Tryz.f261.results.toList=[.tmp 2]:=by kernel_rfl
theorem nt261: Tryz.f261.ntmps=25:=by kernel_rfl
noncomputable def body262:Code:=(Tryz.f262.body).getD .skip
theorem ok262:FnOk Tryz.prog 262 Tryz.f262 body262:=⟨by kernel_rfl,by kernel_rfl,by kernel_rfl,by kernel_rfl⟩
theorem rs262: Tryz.f262.results.toList=[.tmp 2]:=by kernel_rfl
theorem nt262: Tryz.f262.ntmps=26:=by kernel_rfl
noncomputable def body263:Code:=(Tryz.f263.body).getD .skip
theorem ok263:FnOk Tryz.prog 263 Tryz.f263 body263:=⟨by kernel_rfl,by kernel_rfl,by kernel_rfl,by kernel_rfl⟩
theorem rs263: Tryz.f263.results.toList=[.tmp 4]:=by kernel_rfl
theorem nt263: Tryz.f263.ntmps=8:=by kernel_rfl
noncomputable def body264:Code:=(Tryz.f264.body).getD .skip
theorem ok264:FnOk Tryz.prog 264 Tryz.f264 body264:=⟨by kernel_rfl,by kernel_rfl,by kernel_rfl,by kernel_rfl⟩
theorem rs264: Tryz.f264.results.toList=[.tmp 4]:=by kernel_rfl
theorem nt264: Tryz.f264.ntmps=50:=by kernel_rfl
noncomputable def body265:Code:=(Tryz.f265.body).getD .skip
theorem ok265:FnOk Tryz.prog 265 Tryz.f265 body265:=⟨by kernel_rfl,by kernel_rfl,by kernel_rfl,by kernel_rfl⟩
theorem rs265: Tryz.f265.results.toList=[.tmp 4]:=by kernel_rfl
theorem nt265: Tryz.f265.ntmps=34:=by kernel_rfl
noncomputable def body266:Code:=(Tryz.f266.body).getD .skip
theorem ok266:FnOk Tryz.prog 266 Tryz.f266 body266:=⟨by kernel_rfl,by kernel_rfl,by kernel_rfl,by kernel_rfl⟩
theorem rs266: Tryz.f266.results.toList=[.tmp 4]:=by kernel_rfl
theorem nt266: Tryz.f266.ntmps=8:=by kernel_rfl
noncomputable def body267:Code:=(Tryz.f267.body).getD .skip
theorem ok267:FnOk Tryz.prog 267 Tryz.f267 body267:=⟨by kernel_rfl,by kernel_rfl,by kernel_rfl,by kernel_rfl⟩
theorem rs267: Tryz.f267.results.toList=[.tmp 4]:=by kernel_rfl
theorem nt267: Tryz.f267.ntmps=21:=by kernel_rfl
noncomputable def body268:Code:=(Tryz.f268.body).getD .skip
theorem ok268:FnOk Tryz.prog 268 Tryz.f268 body268:=⟨by kernel_rfl,by kernel_rfl,by kernel_rfl,by kernel_rfl⟩
theorem rs268: Tryz.f268.results.toList=[.tmp 2,.tmp 3]:=by kernel_rfl
theorem nt268: Tryz.f268.ntmps=18:=by kernel_rfl
noncomputable def body269:Code:=(Tryz.f269.body).getD .skip
theorem ok269:FnOk Tryz.prog 269 Tryz.f269 body269:=⟨by kernel_rfl,by kernel_rfl,by kernel_rfl,by kernel_rfl⟩
theorem rs269: Tryz.f269.results.toList=[.tmp 4]:=by kernel_rfl
theorem nt269: Tryz.f269.ntmps=22:=by kernel_rfl
noncomputable def body270:Code:=(Tryz.f270.body).getD .skip
theorem ok270:FnOk Tryz.prog 270 Tryz.f270 body270:=⟨by kernel_rfl,by kernel_rfl,by kernel_rfl,by kernel_rfl⟩
theorem rs270: Tryz.f270.results.toList=[.tmp 4]:=by kernel_rfl
theorem nt270: Tryz.f270.ntmps=19:=by kernel_rfl
noncomputable def body271:Code:=(Tryz.f271.body).getD .skip
theorem ok271:FnOk Tryz.prog 271 Tryz.f271 body271:=⟨by kernel_rfl,by kernel_rfl,by kernel_rfl,by kernel_rfl⟩
theorem rs271: Tryz.f271.results.toList=[.tmp 8]:=by kernel_rfl
theorem nt271: Tryz.f271.ntmps=41:=by kernel_rfl
noncomputable def body272:Code:=(Tryz.f272.body).getD .skip
theorem ok272:FnOk Tryz.prog 272 Tryz.f272 body272:=⟨by kernel_rfl,by kernel_rfl,by kernel_rfl,by kernel_rfl⟩
theorem rs272: Tryz.f272.results.toList=[.tmp 4]:=by kernel_rfl
theorem nt272: Tryz.f272.ntmps=9:=by kernel_rfl
noncomputable def body273:Code:=(Tryz.f273.body).getD .skip
theorem ok273:FnOk Tryz.prog 273 Tryz.f273 body273:=⟨by kernel_rfl,by kernel_rfl,by kernel_rfl,by kernel_rfl⟩
theorem rs273: Tryz.f273.results.toList=[.tmp 3]:=by kernel_rfl
theorem nt273: Tryz.f273.ntmps=9:=by kernel_rfl
noncomputable def body274:Code:=(Tryz.f274.body).getD .skip
theorem ok274:FnOk Tryz.prog 274 Tryz.f274 body274:=⟨by kernel_rfl,by kernel_rfl,by kernel_rfl,by kernel_rfl⟩
theorem rs274: Tryz.f274.results.toList=[.tmp 3]:=by kernel_rfl
theorem nt274: Tryz.f274.ntmps=14:=by kernel_rfl
noncomputable def body275:Code:=(Tryz.f275.body).getD .skip
theorem ok275:FnOk Tryz.prog 275 Tryz.f275 body275:=⟨by kernel_rfl,by kernel_rfl,by kernel_rfl,by kernel_rfl⟩
theorem rs275: Tryz.f275.results.toList=[.tmp 2]:=by kernel_rfl
theorem nt275: Tryz.f275.ntmps=32:=by kernel_rfl
noncomputable def body276:Code:=(Tryz.f276.body).getD .skip
theorem ok276:FnOk Tryz.prog 276 Tryz.f276 body276:=⟨by kernel_rfl,by kernel_rfl,by kernel_rfl,by kernel_rfl⟩
theorem rs276: Tryz.f276.results.toList=[]:=by kernel_rfl
theorem nt276: Tryz.f276.ntmps=15:=by kernel_rfl
noncomputable def body277:Code:=(Tryz.f277.body).getD .skip
theorem ok277:FnOk Tryz.prog 277 Tryz.f277 body277:=⟨by kernel_rfl,by kernel_rfl,by kernel_rfl,by kernel_rfl⟩
theorem rs277: Tryz.f277.results.toList=[]:=by kernel_rfl
theorem nt277: Tryz.f277.ntmps=21:=by kernel_rfl
noncomputable def body278:Code:=(Tryz.f278.body).getD .skip
theorem ok278:FnOk Tryz.prog 278 Tryz.f278 body278:=⟨by kernel_rfl,by kernel_rfl,by kernel_rfl,by kernel_rfl⟩
theorem rs278: Tryz.f278.results.toList=[]:=by kernel_rfl
theorem nt278: Tryz.f278.ntmps=60:=by kernel_rfl
noncomputable def body279:Code:=(Tryz.f279.body).getD .skip
theorem ok279:FnOk Tryz.prog 279 Tryz.f279 body279:=⟨by kernel_rfl,by kernel_rfl,by kernel_rfl,by kernel_rfl⟩
theorem rs279: Tryz.f279.results.toList=[]:=by kernel_rfl
theorem nt279: Tryz.f279.ntmps=63:=by kernel_rfl
noncomputable def body280:Code:=(Tryz.f280.body).getD .skip
theorem ok280:FnOk Tryz.prog 280 Tryz.f280 body280:=⟨by kernel_rfl,by kernel_rfl,by kernel_rfl,by kernel_rfl⟩
theorem rs280: Tryz.f280.results.toList=[]:=by kernel_rfl
theorem nt280: Tryz.f280.ntmps=22:=by kernel_rfl
noncomputable def body281:Code:=(Tryz.f281.body).getD .skip
theorem ok281:FnOk Tryz.prog 281 Tryz.f281 body281:=⟨by kernel_rfl,by kernel_rfl,by kernel_rfl,by kernel_rfl⟩
theorem rs281: Tryz.f281.results.toList=[]:=by kernel_rfl
theorem nt281: Tryz.f281.ntmps=66:=by kernel_rfl
noncomputable def body282:Code:=(Tryz.f282.body).getD .skip
theorem ok282:FnOk Tryz.prog 282 Tryz.f282 body282:=⟨by kernel_rfl,by kernel_rfl,by kernel_rfl,by kernel_rfl⟩
theorem rs282: Tryz.f282.results.toList=[]:=by kernel_rfl
theorem nt282: Tryz.f282.ntmps=42:=by kernel_rfl
noncomputable def body283:Code:=(Tryz.f283.body).getD .skip
theorem ok283:FnOk Tryz.prog 283 Tryz.f283 body283:=⟨by kernel_rfl,by kernel_rfl,by kernel_rfl,by kernel_rfl⟩
theorem rs283: Tryz.f283.results.toList=[]:=by kernel_rfl
theorem nt283: Tryz.f283.ntmps=42:=by kernel_rfl
noncomputable def body284:Code:=(Tryz.f284.body).getD .skip
theorem ok284:FnOk Tryz.prog 284 Tryz.f284 body284:=⟨by kernel_rfl,by kernel_rfl,by kernel_rfl,by kernel_rfl⟩
theorem rs284: Tryz.f284.results.toList=[]:=by kernel_rfl
theorem nt284: Tryz.f284.ntmps=33:=by kernel_rfl
noncomputable def body285:Code:=(Tryz.f285.body).getD .skip
theorem ok285:FnOk Tryz.prog 285 Tryz.f285 body285:=⟨by kernel_rfl,by kernel_rfl,by kernel_rfl,by kernel_rfl⟩
theorem rs285: Tryz.f285.results.toList=[]:=by kernel_rfl
theorem nt285: Tryz.f285.ntmps=27:=by kernel_rfl
noncomputable def body286:Code:=(Tryz.f286.body).getD .skip
theorem ok286:FnOk Tryz.prog 286 Tryz.f286 body286:=⟨by kernel_rfl,by kernel_rfl,by kernel_rfl,by kernel_rfl⟩
theorem rs286: Tryz.f286.results.toList=[]:=by kernel_rfl
theorem nt286: Tryz.f286.ntmps=23:=by kernel_rfl
noncomputable def body287:Code:=(Tryz.f287.body).getD .skip
theorem ok287:FnOk Tryz.prog 287 Tryz.f287 body287:=⟨by kernel_rfl,by kernel_rfl,by kernel_rfl,by kernel_rfl⟩
theorem rs287: Tryz.f287.results.toList=[]:=by kernel_rfl
theorem nt287: Tryz.f287.ntmps=19:=by kernel_rfl
noncomputable def body288:Code:=(Tryz.f288.body).getD .skip
theorem ok288:FnOk Tryz.prog 288 Tryz.f288 body288:=⟨by kernel_rfl,by kernel_rfl,by kernel_rfl,by kernel_rfl⟩
theorem rs288: Tryz.f288.results.toList=[]:=by kernel_rfl
theorem nt288: Tryz.f288.ntmps=21:=by kernel_rfl
noncomputable def body289:Code:=(Tryz.f289.body).getD .skip
theorem ok289:FnOk Tryz.prog 289 Tryz.f289 body289:=⟨by kernel_rfl,by kernel_rfl,by kernel_rfl,by kernel_rfl⟩
theorem rs289: Tryz.f289.results.toList=[]:=by kernel_rfl
theorem nt289: Tryz.f289.ntmps=21:=by kernel_rfl
noncomputable def body290:Code:=(Tryz.f290.body).getD .skip
theorem ok290:FnOk Tryz.prog 290 Tryz.f290 body290:=⟨by kernel_rfl,by kernel_rfl,by kernel_rfl,by kernel_rfl⟩
theorem rs290: Tryz.f290.results.toList=[.tmp 4]:=by kernel_rfl
theorem nt290: Tryz.f290.ntmps=9:=by kernel_rfl
noncomputable def body291:Code:=(Tryz.f291.body).getD .skip
theorem ok291:FnOk Tryz.prog 291 Tryz.f291 body291:=⟨by kernel_rfl,by kernel_rfl,by kernel_rfl,by kernel_rfl⟩
theorem rs291: Tryz.f291.results.toList=[.tmp 6,.tmp 7]:=by kernel_rfl
theorem nt291: Tryz.f291.ntmps=57:=by kernel_rfl
noncomputable def body292:Code:=(Tryz.f292.body).getD .skip
theorem ok292:FnOk Tryz.prog 292 Tryz.f292 body292:=⟨by kernel_rfl,by kernel_rfl,by kernel_rfl,by kernel_rfl⟩
theorem rs292: Tryz.f292.results.toList=[.tmp 6]:=by kernel_rfl
theorem nt292: Tryz.f292.ntmps=27:=by kernel_rfl
noncomputable def body293:Code:=(Tryz.f293.body).getD .skip
theorem ok293:FnOk Tryz.prog 293 Tryz.f293 body293:=⟨by kernel_rfl,by kernel_rfl,by kernel_rfl,by kernel_rfl⟩
theorem rs293: Tryz.f293.results.toList=[]:=by kernel_rfl
theorem nt293: Tryz.f293.ntmps=6:=by kernel_rfl
noncomputable def body294:Code:=(Tryz.f294.body).getD .skip
theorem ok294:FnOk Tryz.prog 294 Tryz.f294 body294:=⟨by kernel_rfl,by kernel_rfl,by kernel_rfl,by kernel_rfl⟩
theorem rs294: Tryz.f294.results.toList=[.tmp 4]:=by kernel_rfl
theorem nt294: Tryz.f294.ntmps=19:=by kernel_rfl
noncomputable def body295:Code:=(Tryz.f295.body).getD .skip
theorem ok295:FnOk Tryz.prog 295 Tryz.f295 body295:=⟨by kernel_rfl,by kernel_rfl,by kernel_rfl,by kernel_rfl⟩
theorem rs295: Tryz.f295.results.toList=[.tmp 3]:=by kernel_rfl
theorem nt295: Tryz.f295.ntmps=8:=by kernel_rfl
noncomputable def body296:Code:=(Tryz.f296.body).getD .skip
theorem ok296:FnOk Tryz.prog 296 Tryz.f296 body296:=⟨by kernel_rfl,by kernel_rfl,by kernel_rfl,by kernel_rfl⟩
theorem rs296: Tryz.f296.results.toList=[.tmp 4,.tmp 5]:=by kernel_rfl
theorem nt296: Tryz.f296.ntmps=34:=by kernel_rfl
noncomputable def body297:Code:=(Tryz.f297.body).getD .skip
theorem ok297:FnOk Tryz.prog 297 Tryz.f297 body297:=⟨by kernel_rfl,by kernel_rfl,by kernel_rfl,by kernel_rfl⟩
theorem rs297: Tryz.f297.results.toList=[.tmp 4]:=by kernel_rfl
theorem nt297: Tryz.f297.ntmps=13:=by kernel_rfl
noncomputable def body298:Code:=(Tryz.f298.body).getD .skip
theorem ok298:FnOk Tryz.prog 298 Tryz.f298 body298:=⟨by kernel_rfl,by kernel_rfl,by kernel_rfl,by kernel_rfl⟩
theorem rs298: Tryz.f298.results.toList=[]:=by kernel_rfl
theorem nt298: Tryz.f298.ntmps=134:=by kernel_rfl
noncomputable def body300:Code:=(Tryz.f300.body).getD .skip
theorem ok300:FnOk Tryz.prog 300 Tryz.f300 body300:=⟨by kernel_rfl,by kernel_rfl,by kernel_rfl,by kernel_rfl⟩
theorem rs300: Tryz.f300.results.toList=[]:=by kernel_rfl
theorem nt300: Tryz.f300.ntmps=30:=by kernel_rfl
noncomputable def body301:Code:=(Tryz.f301.body).getD .skip
theorem ok301:FnOk Tryz.prog 301 Tryz.f301 body301:=⟨by kernel_rfl,by kernel_rfl,by kernel_rfl,by kernel_rfl⟩
theorem rs301: Tryz.f301.results.toList=[.tmp 2]:=by kernel_rfl
theorem nt301: Tryz.f301.ntmps=15:=by kernel_rfl
noncomputable def body302:Code:=(Tryz.f302.body).getD .skip
theorem ok302:FnOk Tryz.prog 302 Tryz.f302 body302:=⟨by kernel_rfl,by kernel_rfl,by kernel_rfl,by kernel_rfl⟩
theorem rs302: Tryz.f302.results.toList=[.tmp 2]:=by kernel_rfl
theorem nt302: Tryz.f302.ntmps=15:=by kernel_rfl
noncomputable def body303:Code:=(Tryz.f303.body).getD .skip
theorem ok303:FnOk Tryz.prog 303 Tryz.f303 body303:=⟨by kernel_rfl,by kernel_rfl,by kernel_rfl,by kernel_rfl⟩
theorem rs303: Tryz.f303.results.toList=[]:=by kernel_rfl
theorem nt303: Tryz.f303.ntmps=167:=by kernel_rfl
noncomputable def body304:Code:=(Tryz.f304.body).getD .skip
theorem ok304:FnOk Tryz.prog 304 Tryz.f304 body304:=⟨by kernel_rfl,by kernel_rfl,by kernel_rfl,by kernel_rfl⟩
theorem rs304: Tryz.f304.results.toList=[.tmp 10,.tmp 11]:=by kernel_rfl
theorem nt304: Tryz.f304.ntmps=102:=by kernel_rfl
noncomputable def body305:Code:=(Tryz.f305.body).getD .skip
theorem ok305:FnOk Tryz.prog 305 Tryz.f305 body305:=⟨by kernel_rfl,by kernel_rfl,by kernel_rfl,by kernel_rfl⟩
theorem rs305: Tryz.f305.results.toList=[]:=by kernel_rfl
theorem nt305: Tryz.f305.ntmps=82:=by kernel_rfl
noncomputable def body306:Code:=(Tryz.f306.body).getD .skip
theorem ok306:FnOk Tryz.prog 306 Tryz.f306 body306:=⟨by kernel_rfl,by kernel_rfl,by kernel_rfl,by kernel_rfl⟩
theorem rs306: Tryz.f306.results.toList=[.tmp 2]:=by kernel_rfl
theorem nt306: Tryz.f306.ntmps=7:=by kernel_rfl
noncomputable def body307:Code:=(Tryz.f307.body).getD .skip
theorem ok307:FnOk Tryz.prog 307 Tryz.f307 body307:=⟨by kernel_rfl,by kernel_rfl,by kernel_rfl,by kernel_rfl⟩
theorem rs307: Tryz.f307.results.toList=[.tmp 2]:=by kernel_rfl
theorem nt307: Tryz.f307.ntmps=33:=by kernel_rfl
noncomputable def body308:Code:=(Tryz.f308.body).getD .skip
theorem ok308:FnOk Tryz.prog 308 Tryz.f308 body308:=⟨by kernel_rfl,by kernel_rfl,by kernel_rfl,by kernel_rfl⟩
theorem rs308: Tryz.f308.results.toList=[.tmp 8]:=by kernel_rfl
theorem nt308: Tryz.f308.ntmps=18:=by kernel_rfl
noncomputable def body309:Code:=(Tryz.f309.body).getD .skip
theorem ok309:FnOk Tryz.prog 309 Tryz.f309 body309:=⟨by kernel_rfl,by kernel_rfl,by kernel_rfl,by kernel_rfl⟩
theorem rs309: Tryz.f309.results.toList=[.tmp 12]:=by kernel_rfl
theorem nt309: Tryz.f309.ntmps=41:=by kernel_rfl
noncomputable def body311:Code:=(Tryz.f311.body).getD .skip
theorem ok311:FnOk Tryz.prog 311 Tryz.f311 body311:=⟨by kernel_rfl,by kernel_rfl,by kernel_rfl,by kernel_rfl⟩
theorem rs311: Tryz.f311.results.toList=[.tmp 2]:=by kernel_rfl
theorem nt311: Tryz.f311.ntmps=10:=by kernel_rfl
noncomputable def body312:Code:=(Tryz.f312.body).getD .skip
theorem ok312:FnOk Tryz.prog 312 Tryz.f312 body312:=⟨by kernel_rfl,by kernel_rfl,by kernel_rfl,by kernel_rfl⟩
theorem rs312: Tryz.f312.results.toList=[.tmp 2,.tmp 3]:=by kernel_rfl
theorem nt312: Tryz.f312.ntmps=19:=by kernel_rfl
noncomputable def body314:Code:=(Tryz.f314.body).getD .skip
theorem ok314:FnOk Tryz.prog 314 Tryz.f314 body314:=⟨by kernel_rfl,by kernel_rfl,by kernel_rfl,by kernel_rfl⟩
theorem rs314: Tryz.f314.results.toList=[.tmp 4]:=by kernel_rfl
theorem nt314: Tryz.f314.ntmps=143:=by kernel_rfl
noncomputable def body315:Code:=(Tryz.f315.body).getD .skip
theorem ok315:FnOk Tryz.prog 315 Tryz.f315 body315:=⟨by kernel_rfl,by kernel_rfl,by kernel_rfl,by kernel_rfl⟩
theorem rs315: Tryz.f315.results.toList=[.tmp 2,.tmp 3]:=by kernel_rfl
theorem nt315: Tryz.f315.ntmps=77:=by kernel_rfl
noncomputable def body316:Code:=(Tryz.f316.body).getD .skip
theorem ok316:FnOk Tryz.prog 316 Tryz.f316 body316:=⟨by kernel_rfl,by kernel_rfl,by kernel_rfl,by kernel_rfl⟩
theorem rs316: Tryz.f316.results.toList=[.tmp 10]:=by kernel_rfl
theorem nt316: Tryz.f316.ntmps=43:=by kernel_rfl
noncomputable def body317:Code:=(Tryz.f317.body).getD .skip
theorem ok317:FnOk Tryz.prog 317 Tryz.f317 body317:=⟨by kernel_rfl,by kernel_rfl,by kernel_rfl,by kernel_rfl⟩
theorem rs317: Tryz.f317.results.toList=[.tmp 2]:=by kernel_rfl
theorem nt317: Tryz.f317.ntmps=4:=by kernel_rfl
noncomputable def body318:Code:=(Tryz.f318.body).getD .skip
theorem ok318:FnOk Tryz.prog 318 Tryz.f318 body318:=⟨by kernel_rfl,by kernel_rfl,by kernel_rfl,by kernel_rfl⟩
theorem rs318: Tryz.f318.results.toList=[.tmp 4]:=by kernel_rfl
theorem nt318: Tryz.f318.ntmps=29:=by kernel_rfl
noncomputable def body319:Code:=(Tryz.f319.body).getD .skip
theorem ok319:FnOk Tryz.prog 319 Tryz.f319 body319:=⟨by kernel_rfl,by kernel_rfl,by kernel_rfl,by kernel_rfl⟩
theorem rs319: Tryz.f319.results.toList=[.tmp 8]:=by kernel_rfl
theorem nt319: Tryz.f319.ntmps=37:=by kernel_rfl
noncomputable def body320:Code:=(Tryz.f320.body).getD .skip
theorem ok320:FnOk Tryz.prog 320 Tryz.f320 body320:=⟨by kernel_rfl,by kernel_rfl,by kernel_rfl,by kernel_rfl⟩
theorem rs320: Tryz.f320.results.toList=[.tmp 4]:=by kernel_rfl
theorem nt320: Tryz.f320.ntmps=21:=by kernel_rfl
noncomputable def body321:Code:=(Tryz.f321.body).getD .skip
theorem ok321:FnOk Tryz.prog 321 Tryz.f321 body321:=⟨by kernel_rfl,by kernel_rfl,by kernel_rfl,by kernel_rfl⟩
theorem rs321: Tryz.f321.results.toList=[.tmp 4]:=by kernel_rfl
theorem nt321: Tryz.f321.ntmps=19:=by kernel_rfl
noncomputable def body322:Code:=(Tryz.f322.body).getD .skip
theorem ok322:FnOk Tryz.prog 322 Tryz.f322 body322:=⟨by kernel_rfl,by kernel_rfl,by kernel_rfl,by kernel_rfl⟩
theorem rs322: Tryz.f322.results.toList=[.tmp 2,.tmp 3]:=by kernel_rfl
theorem nt322: Tryz.f322.ntmps=8:=by kernel_rfl
noncomputable def body323:Code:=(Tryz.f323.body).getD .skip
theorem ok323:FnOk Tryz.prog 323 Tryz.f323 body323:=⟨by kernel_rfl,by kernel_rfl,by kernel_rfl,by kernel_rfl⟩
theorem rs323: Tryz.f323.results.toList=[.tmp 4,.tmp 5]:=by kernel_rfl
theorem nt323: Tryz.f323.ntmps=24:=by kernel_rfl
noncomputable def body324:Code:=(Tryz.f324.body).getD .skip
theorem ok324:FnOk Tryz.prog 324 Tryz.f324 body324:=⟨by kernel_rfl,by kernel_rfl,by kernel_rfl,by kernel_rfl⟩
theorem rs324: Tryz.f324.results.toList=[]:=by kernel_rfl
theorem nt324: Tryz.f324.ntmps=49:=by kernel_rfl
noncomputable def body325:Code:=(Tryz.f325.body).getD .skip
theorem ok325:FnOk Tryz.prog 325 Tryz.f325 body325:=⟨by kernel_rfl,by kernel_rfl,by kernel_rfl,by kernel_rfl⟩
theorem rs325: Tryz.f325.results.toList=[]:=by kernel_rfl
theorem nt325: Tryz.f325.ntmps=56:=by kernel_rfl
noncomputable def body326:Code:=(Tryz.f326.body).getD .skip
theorem ok326:FnOk Tryz.prog 326 Tryz.f326 body326:=⟨by kernel_rfl,by kernel_rfl,by kernel_rfl,by kernel_rfl⟩
theorem rs326: Tryz.f326.results.toList=[]:=by kernel_rfl
theorem nt326: Tryz.f326.ntmps=65:=by kernel_rfl
noncomputable def body327:Code:=(Tryz.f327.body).getD .skip
theorem ok327:FnOk Tryz.prog 327 Tryz.f327 body327:=⟨by kernel_rfl,by kernel_rfl,by kernel_rfl,by kernel_rfl⟩
theorem rs327: Tryz.f327.results.toList=[.tmp 6,.tmp 7]:=by kernel_rfl
theorem nt327: Tryz.f327.ntmps=57:=by kernel_rfl
noncomputable def body328:Code:=(Tryz.f328.body).getD .skip
theorem ok328:FnOk Tryz.prog 328 Tryz.f328 body328:=⟨by kernel_rfl,by kernel_rfl,by kernel_rfl,by kernel_rfl⟩
theorem rs328: Tryz.f328.results.toList=[]:=by kernel_rfl
theorem nt328: Tryz.f328.ntmps=32:=by kernel_rfl
noncomputable def body329:Code:=(Tryz.f329.body).getD .skip
theorem ok329:FnOk Tryz.prog 329 Tryz.f329 body329:=⟨by kernel_rfl,by kernel_rfl,by kernel_rfl,by kernel_rfl⟩
theorem rs329: Tryz.f329.results.toList=[.tmp 6]:=by kernel_rfl
theorem nt329: Tryz.f329.ntmps=133:=by kernel_rfl
noncomputable def body330:Code:=(Tryz.f330.body).getD .skip
theorem ok330:FnOk Tryz.prog 330 Tryz.f330 body330:=⟨by kernel_rfl,by kernel_rfl,by kernel_rfl,by kernel_rfl⟩
theorem rs330: Tryz.f330.results.toList=[.tmp 4]:=by kernel_rfl
theorem nt330: Tryz.f330.ntmps=17:=by kernel_rfl
noncomputable def body331:Code:=(Tryz.f331.body).getD .skip
theorem ok331:FnOk Tryz.prog 331 Tryz.f331 body331:=⟨by kernel_rfl,by kernel_rfl,by kernel_rfl,by kernel_rfl⟩
theorem rs331: Tryz.f331.results.toList=[.tmp 8]:=by kernel_rfl
theorem nt331: Tryz.f331.ntmps=84:=by kernel_rfl
noncomputable def body332:Code:=(Tryz.f332.body).getD .skip
theorem ok332:FnOk Tryz.prog 332 Tryz.f332 body332:=⟨by kernel_rfl,by kernel_rfl,by kernel_rfl,by kernel_rfl⟩
theorem rs332: Tryz.f332.results.toList=[.tmp 8,.tmp 9]:=by kernel_rfl
theorem nt332: Tryz.f332.ntmps=168:=by kernel_rfl
noncomputable def body334:Code:=(Tryz.f334.body).getD .skip
theorem ok334:FnOk Tryz.prog 334 Tryz.f334 body334:=⟨by kernel_rfl,by kernel_rfl,by kernel_rfl,by kernel_rfl⟩
theorem rs334: Tryz.f334.results.toList=[.tmp 2]:=by kernel_rfl
theorem nt334: Tryz.f334.ntmps=6:=by kernel_rfl
noncomputable def body335:Code:=(Tryz.f335.body).getD .skip
theorem ok335:FnOk Tryz.prog 335 Tryz.f335 body335:=⟨by kernel_rfl,by kernel_rfl,by kernel_rfl,by kernel_rfl⟩
theorem rs335: Tryz.f335.results.toList=[.tmp 2]:=by kernel_rfl
theorem nt335: Tryz.f335.ntmps=4:=by kernel_rfl
noncomputable def body336:Code:=(Tryz.f336.body).getD .skip
theorem ok336:FnOk Tryz.prog 336 Tryz.f336 body336:=⟨by kernel_rfl,by kernel_rfl,by kernel_rfl,by kernel_rfl⟩
theorem rs336: Tryz.f336.results.toList=[.tmp 2]:=by kernel_rfl
theorem nt336: Tryz.f336.ntmps=8:=by kernel_rfl
noncomputable def body337:Code:=(Tryz.f337.body).getD .skip
theorem ok337:FnOk Tryz.prog 337 Tryz.f337 body337:=⟨by kernel_rfl,by kernel_rfl,by kernel_rfl,by kernel_rfl⟩
theorem rs337: Tryz.f337.results.toList=[.tmp 2]:=by kernel_rfl
theorem nt337: Tryz.f337.ntmps=8:=by kernel_rfl
noncomputable def body338:Code:=(Tryz.f338.body).getD .skip
theorem ok338:FnOk Tryz.prog 338 Tryz.f338 body338:=⟨by kernel_rfl,by kernel_rfl,by kernel_rfl,by kernel_rfl⟩
theorem rs338: Tryz.f338.results.toList=[.tmp 10,.tmp 11]:=by kernel_rfl
theorem nt338: Tryz.f338.ntmps=32:=by kernel_rfl
noncomputable def body339:Code:=(Tryz.f339.body).getD .skip
theorem ok339:FnOk Tryz.prog 339 Tryz.f339 body339:=⟨by kernel_rfl,by kernel_rfl,by kernel_rfl,by kernel_rfl⟩
theorem rs339: Tryz.f339.results.toList=[.tmp 2,.tmp 3]:=by kernel_rfl
theorem nt339: Tryz.f339.ntmps=117:=by kernel_rfl
noncomputable def body341:Code:=(Tryz.f341.body).getD .skip
theorem ok341:FnOk Tryz.prog 341 Tryz.f341 body341:=⟨by kernel_rfl,by kernel_rfl,by kernel_rfl,by kernel_rfl⟩
theorem rs341: Tryz.f341.results.toList=[.tmp 2]:=by kernel_rfl
theorem nt341: Tryz.f341.ntmps=6:=by kernel_rfl
noncomputable def body342:Code:=(Tryz.f342.body).getD .skip
theorem ok342:FnOk Tryz.prog 342 Tryz.f342 body342:=⟨by kernel_rfl,by kernel_rfl,by kernel_rfl,by kernel_rfl⟩
theorem rs342: Tryz.f342.results.toList=[.tmp 4]:=by kernel_rfl
theorem nt342: Tryz.f342.ntmps=81:=by kernel_rfl
noncomputable def body343:Code:=(Tryz.f343.body).getD .skip
theorem ok343:FnOk Tryz.prog 343 Tryz.f343 body343:=⟨by kernel_rfl,by kernel_rfl,by kernel_rfl,by kernel_rfl⟩
theorem rs343: Tryz.f343.results.toList=[.tmp 6,.tmp 7]:=by kernel_rfl
theorem nt343: Tryz.f343.ntmps=73:=by kernel_rfl
noncomputable def body344:Code:=(Tryz.f344.body).getD .skip
theorem ok344:FnOk Tryz.prog 344 Tryz.f344 body344:=⟨by kernel_rfl,by kernel_rfl,by kernel_rfl,by kernel_rfl⟩
theorem rs344: Tryz.f344.results.toList=[.tmp 4]:=by kernel_rfl
theorem nt344: Tryz.f344.ntmps=11:=by kernel_rfl
noncomputable def body345:Code:=(Tryz.f345.body).getD .skip
theorem ok345:FnOk Tryz.prog 345 Tryz.f345 body345:=⟨by kernel_rfl,by kernel_rfl,by kernel_rfl,by kernel_rfl⟩
theorem rs345: Tryz.f345.results.toList=[.tmp 4]:=by kernel_rfl
theorem nt345: Tryz.f345.ntmps=11:=by kernel_rfl
noncomputable def body346:Code:=(Tryz.f346.body).getD .skip
theorem ok346:FnOk Tryz.prog 346 Tryz.f346 body346:=⟨by kernel_rfl,by kernel_rfl,by kernel_rfl,by kernel_rfl⟩
theorem rs346: Tryz.f346.results.toList=[.tmp 6]:=by kernel_rfl
theorem nt346: Tryz.f346.ntmps=16:=by kernel_rfl
noncomputable def body347:Code:=(Tryz.f347.body).getD .skip
theorem ok347:FnOk Tryz.prog 347 Tryz.f347 body347:=⟨by kernel_rfl,by kernel_rfl,by kernel_rfl,by kernel_rfl⟩
theorem rs347: Tryz.f347.results.toList=[.tmp 6]:=by kernel_rfl
theorem nt347: Tryz.f347.ntmps=16:=by kernel_rfl
noncomputable def body348:Code:=(Tryz.f348.body).getD .skip
theorem ok348:FnOk Tryz.prog 348 Tryz.f348 body348:=⟨by kernel_rfl,by kernel_rfl,by kernel_rfl,by kernel_rfl⟩
theorem rs348: Tryz.f348.results.toList=[]:=by kernel_rfl
theorem nt348: Tryz.f348.ntmps=76:=by kernel_rfl
noncomputable def body349:Code:=(Tryz.f349.body).getD .skip
theorem ok349:FnOk Tryz.prog 349 Tryz.f349 body349:=⟨by kernel_rfl,by kernel_rfl,by kernel_rfl,by kernel_rfl⟩
theorem rs349: Tryz.f349.results.toList=[.tmp 6]:=by kernel_rfl
theorem nt349: Tryz.f349.ntmps=15:=by kernel_rfl
noncomputable def body350:Code:=(Tryz.f350.body).getD .skip
theorem ok350:FnOk Tryz.prog 350 Tryz.f350 body350:=⟨by kernel_rfl,by kernel_rfl,by kernel_rfl,by kernel_rfl⟩
theorem rs350: Tryz.f350.results.toList=[.tmp 10]:=by kernel_rfl
theorem nt350: Tryz.f350.ntmps=36:=by kernel_rfl
noncomputable def body351:Code:=(Tryz.f351.body).getD .skip
theorem ok351:FnOk Tryz.prog 351 Tryz.f351 body351:=⟨by kernel_rfl,by kernel_rfl,by kernel_rfl,by kernel_rfl⟩
theorem rs351: Tryz.f351.results.toList=[.tmp 2]:=by kernel_rfl
theorem nt351: Tryz.f351.ntmps=6:=by kernel_rfl
noncomputable def body352:Code:=(Tryz.f352.body).getD .skip
theorem ok352:FnOk Tryz.prog 352 Tryz.f352 body352:=⟨by kernel_rfl,by kernel_rfl,by kernel_rfl,by kernel_rfl⟩
theorem rs352: Tryz.f352.results.toList=[.tmp 2]:=by kernel_rfl
theorem nt352: Tryz.f352.ntmps=14:=by kernel_rfl
noncomputable def body353:Code:=(Tryz.f353.body).getD .skip
theorem ok353:FnOk Tryz.prog 353 Tryz.f353 body353:=⟨by kernel_rfl,by kernel_rfl,by kernel_rfl,by kernel_rfl⟩
theorem rs353: Tryz.f353.results.toList=[.tmp 2]:=by kernel_rfl
theorem nt353: Tryz.f353.ntmps=14:=by kernel_rfl
noncomputable def body354:Code:=(Tryz.f354.body).getD .skip
theorem ok354:FnOk Tryz.prog 354 Tryz.f354 body354:=⟨by kernel_rfl,by kernel_rfl,by kernel_rfl,by kernel_rfl⟩
theorem rs354: Tryz.f354.results.toList=[.tmp 2,.tmp 3]:=by kernel_rfl
theorem nt354: Tryz.f354.ntmps=39:=by kernel_rfl
noncomputable def body355:Code:=(Tryz.f355.body).getD .skip
theorem ok355:FnOk Tryz.prog 355 Tryz.f355 body355:=⟨by kernel_rfl,by kernel_rfl,by kernel_rfl,by kernel_rfl⟩
theorem rs355: Tryz.f355.results.toList=[.tmp 6,.tmp 7]:=by kernel_rfl
theorem nt355: Tryz.f355.ntmps=172:=by kernel_rfl
noncomputable def body356:Code:=(Tryz.f356.body).getD .skip
theorem ok356:FnOk Tryz.prog 356 Tryz.f356 body356:=⟨by kernel_rfl,by kernel_rfl,by kernel_rfl,by kernel_rfl⟩
theorem rs356: Tryz.f356.results.toList=[.tmp 2]:=by kernel_rfl
theorem nt356: Tryz.f356.ntmps=18:=by kernel_rfl
noncomputable def body357:Code:=(Tryz.f357.body).getD .skip
theorem ok357:FnOk Tryz.prog 357 Tryz.f357 body357:=⟨by kernel_rfl,by kernel_rfl,by kernel_rfl,by kernel_rfl⟩
theorem rs357: Tryz.f357.results.toList=[.tmp 2]:=by kernel_rfl
theorem nt357: Tryz.f357.ntmps=7:=by kernel_rfl
noncomputable def body358:Code:=(Tryz.f358.body).getD .skip
theorem ok358:FnOk Tryz.prog 358 Tryz.f358 body358:=⟨by kernel_rfl,by kernel_rfl,by kernel_rfl,by kernel_rfl⟩
theorem rs358: Tryz.f358.results.toList=[.tmp 8,.tmp 9]:=by kernel_rfl
theorem nt358: Tryz.f358.ntmps=28:=by kernel_rfl
noncomputable def body359:Code:=(Tryz.f359.body).getD .skip
theorem ok359:FnOk Tryz.prog 359 Tryz.f359 body359:=⟨by kernel_rfl,by kernel_rfl,by kernel_rfl,by kernel_rfl⟩
theorem rs359: Tryz.f359.results.toList=[.tmp 2]:=by kernel_rfl
theorem nt359: Tryz.f359.ntmps=5:=by kernel_rfl
noncomputable def body360:Code:=(Tryz.f360.body).getD .skip
theorem ok360:FnOk Tryz.prog 360 Tryz.f360 body360:=⟨by kernel_rfl,by kernel_rfl,by kernel_rfl,by kernel_rfl⟩
theorem rs360: Tryz.f360.results.toList=[.tmp 2]:=by kernel_rfl
theorem nt360: Tryz.f360.ntmps=94:=by kernel_rfl
noncomputable def body377:Code:=(Tryz.f377.body).getD .skip
theorem ok377:FnOk Tryz.prog 377 Tryz.f377 body377:=⟨by kernel_rfl,by kernel_rfl,by kernel_rfl,by kernel_rfl⟩
theorem rs377: Tryz.f377.results.toList=[.tmp 2]:=by kernel_rfl
theorem nt377: Tryz.f377.ntmps=3:=by kernel_rfl
noncomputable def body378:Code:=(Tryz.f378.body).getD .skip
theorem ok378:FnOk Tryz.prog 378 Tryz.f378 body378:=⟨by kernel_rfl,by kernel_rfl,by kernel_rfl,by kernel_rfl⟩
theorem rs378: Tryz.f378.results.toList=[.tmp 2]:=by kernel_rfl
theorem nt378: Tryz.f378.ntmps=3:=by kernel_rfl
noncomputable def body392:Code:=(Tryz.f392.body).getD .skip
theorem ok392:FnOk Tryz.prog 392 Tryz.f392 body392:=⟨by kernel_rfl,by kernel_rfl,by kernel_rfl,by kernel_rfl⟩
theorem rs392: Tryz.f392.results.toList=[]:=by kernel_rfl
theorem nt392: Tryz.f392.ntmps=11:=by kernel_rfl
end Go.Proofs.Tryz.K
