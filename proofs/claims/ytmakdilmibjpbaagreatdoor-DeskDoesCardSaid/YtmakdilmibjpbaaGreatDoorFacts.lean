/- Closed facts of the tables of this program. -/
import Derived.Test.YtmakdilmibjpbaaGreatDoorRows
import Derived.Test.YtmakdilmibjpbaaGreatDoorTiny
import Derived.KernelRfl
namespace Go.Proofs.YtmakdilmibjpbaaGreatDoor
open Go
theorem cf_10:cfB Tryz.prog 10=true:=by kernel_rfl
theorem cf_100:cfB Tryz.prog 100=true:=by kernel_rfl
theorem cf_101:cfB Tryz.prog 101=true:=by kernel_rfl
theorem cf_102:cfB Tryz.prog 102=true:=by kernel_rfl
theorem cf_103:cfB Tryz.prog 103=true:=by kernel_rfl
theorem cf_104:cfB Tryz.prog 104=true:=by kernel_rfl
theorem cf_105:cfB Tryz.prog 105=true:=by kernel_rfl
theorem cf_106:cfB Tryz.prog 106=true:=by kernel_rfl
theorem cf_107:cfB Tryz.prog 107=true:=by kernel_rfl
theorem cf_108:cfB Tryz.prog 108=true:=by kernel_rfl
theorem cf_109:cfB Tryz.prog 109=true:=by kernel_rfl
theorem cf_11:cfB Tryz.prog 11=true:=by kernel_rfl
theorem cf_110:cfB Tryz.prog 110=true:=by kernel_rfl
theorem cf_111:cfB Tryz.prog 111=true:=by kernel_rfl
theorem cf_112:cfB Tryz.prog 112=true:=by kernel_rfl
theorem cf_113:cfB Tryz.prog 113=true:=by kernel_rfl
theorem cf_114:cfB Tryz.prog 114=true:=by kernel_rfl
theorem cf_115:cfB Tryz.prog 115=true:=by kernel_rfl
theorem cf_116:cfB Tryz.prog 116=true:=by kernel_rfl
theorem cf_117:cfB Tryz.prog 117=true:=by kernel_rfl
theorem cf_118:cfB Tryz.prog 118=true:=by kernel_rfl
theorem cf_119:cfB Tryz.prog 119=true:=by kernel_rfl
theorem cf_12:cfB Tryz.prog 12=true:=by kernel_rfl
theorem cf_120:cfB Tryz.prog 120=true:=by kernel_rfl
theorem cf_121:cfB Tryz.prog 121=true:=by kernel_rfl
theorem cf_13:cfB Tryz.prog 13=true:=by kernel_rfl
theorem cf_133:cfB Tryz.prog 133=true:=by kernel_rfl
theorem cf_134:cfB Tryz.prog 134=true:=by kernel_rfl
theorem cf_135:cfB Tryz.prog 135=true:=by kernel_rfl
theorem cf_136:cfB Tryz.prog 136=true:=by kernel_rfl
theorem cf_137:cfB Tryz.prog 137=true:=by kernel_rfl
theorem cf_138:cfB Tryz.prog 138=true:=by kernel_rfl
theorem cf_139:cfB Tryz.prog 139=true:=by kernel_rfl
theorem cf_14:cfB Tryz.prog 14=true:=by kernel_rfl
theorem cf_140:cfB Tryz.prog 140=true:=by kernel_rfl
theorem cf_141:cfB Tryz.prog 141=true:=by kernel_rfl
theorem cf_142:cfB Tryz.prog 142=true:=by kernel_rfl
theorem cf_143:cfB Tryz.prog 143=true:=by kernel_rfl
theorem cf_144:cfB Tryz.prog 144=true:=by kernel_rfl
theorem cf_145:cfB Tryz.prog 145=true:=by kernel_rfl
theorem cf_146:cfB Tryz.prog 146=true:=by kernel_rfl
theorem cf_147:cfB Tryz.prog 147=true:=by kernel_rfl
theorem cf_148:cfB Tryz.prog 148=true:=by kernel_rfl
theorem cf_149:cfB Tryz.prog 149=true:=by kernel_rfl
theorem cf_15:cfB Tryz.prog 15=true:=by kernel_rfl
theorem cf_158:cfB Tryz.prog 158=true:=by kernel_rfl
theorem cf_159:cfB Tryz.prog 159=true:=by kernel_rfl
theorem cf_16:cfB Tryz.prog 16=true:=by kernel_rfl
theorem cf_160:cfB Tryz.prog 160=true:=by kernel_rfl
theorem cf_161:cfB Tryz.prog 161=true:=by kernel_rfl
theorem cf_162:cfB Tryz.prog 162=true:=by kernel_rfl
theorem cf_163:cfB Tryz.prog 163=true:=by kernel_rfl
theorem cf_164:cfB Tryz.prog 164=true:=by kernel_rfl
theorem cf_165:cfB Tryz.prog 165=true:=by kernel_rfl
theorem cf_166:cfB Tryz.prog 166=true:=by kernel_rfl
theorem cf_167:cfB Tryz.prog 167=true:=by kernel_rfl
theorem cf_17:cfB Tryz.prog 17=true:=by kernel_rfl
theorem cf_173:cfB Tryz.prog 173=true:=by kernel_rfl
theorem cf_174:cfB Tryz.prog 174=true:=by kernel_rfl
theorem cf_175:cfB Tryz.prog 175=true:=by kernel_rfl
theorem cf_176:cfB Tryz.prog 176=true:=by kernel_rfl
theorem cf_177:cfB Tryz.prog 177=true:=by kernel_rfl
theorem cf_178:cfB Tryz.prog 178=true:=by kernel_rfl
theorem cf_179:cfB Tryz.prog 179=true:=by kernel_rfl
theorem cf_18:cfB Tryz.prog 18=true:=by kernel_rfl
theorem cf_182:cfB Tryz.prog 182=true:=by kernel_rfl
theorem cf_183:cfB Tryz.prog 183=true:=by kernel_rfl
theorem cf_184:cfB Tryz.prog 184=true:=by kernel_rfl
theorem cf_185:cfB Tryz.prog 185=true:=by kernel_rfl
theorem cf_186:cfB Tryz.prog 186=true:=by kernel_rfl
theorem cf_187:cfB Tryz.prog 187=true:=by kernel_rfl
theorem cf_188:cfB Tryz.prog 188=true:=by kernel_rfl
theorem cf_189:cfB Tryz.prog 189=true:=by kernel_rfl
theorem cf_19:cfB Tryz.prog 19=true:=by kernel_rfl
theorem cf_20:cfB Tryz.prog 20=true:=by kernel_rfl
theorem cf_21:cfB Tryz.prog 21=true:=by kernel_rfl
theorem cf_22:cfB Tryz.prog 22=true:=by kernel_rfl
theorem cf_24:cfB Tryz.prog 24=true:=by kernel_rfl
theorem cf_25:cfB Tryz.prog 25=true:=by kernel_rfl
theorem cf_26:cfB Tryz.prog 26=true:=by kernel_rfl
theorem cf_27:cfB Tryz.prog 27=true:=by kernel_rfl
theorem cf_28:cfB Tryz.prog 28=true:=by kernel_rfl
theorem cf_29:cfB Tryz.prog 29=true:=by kernel_rfl
theorem cf_30:cfB Tryz.prog 30=true:=by kernel_rfl
theorem cf_31:cfB Tryz.prog 31=true:=by kernel_rfl
theorem cf_32:cfB Tryz.prog 32=true:=by kernel_rfl
theorem cf_33:cfB Tryz.prog 33=true:=by kernel_rfl
theorem cf_34:cfB Tryz.prog 34=true:=by kernel_rfl
theorem cf_35:cfB Tryz.prog 35=true:=by kernel_rfl
theorem cf_36:cfB Tryz.prog 36=true:=by kernel_rfl
theorem cf_37:cfB Tryz.prog 37=true:=by kernel_rfl
theorem cf_38:cfB Tryz.prog 38=true:=by kernel_rfl
theorem cf_39:cfB Tryz.prog 39=true:=by kernel_rfl
theorem cf_4:cfB Tryz.prog 4=true:=by kernel_rfl
theorem cf_40:cfB Tryz.prog 40=true:=by kernel_rfl
theorem cf_41:cfB Tryz.prog 41=true:=by kernel_rfl
theorem cf_42:cfB Tryz.prog 42=true:=by kernel_rfl
theorem cf_43:cfB Tryz.prog 43=true:=by kernel_rfl
theorem cf_44:cfB Tryz.prog 44=true:=by kernel_rfl
theorem cf_45:cfB Tryz.prog 45=true:=by kernel_rfl
theorem cf_46:cfB Tryz.prog 46=true:=by kernel_rfl
theorem cf_48:cfB Tryz.prog 48=true:=by kernel_rfl
theorem cf_5:cfB Tryz.prog 5=true:=by kernel_rfl
theorem cf_52:cfB Tryz.prog 52=true:=by kernel_rfl
theorem cf_53:cfB Tryz.prog 53=true:=by kernel_rfl
theorem cf_54:cfB Tryz.prog 54=true:=by kernel_rfl
theorem cf_55:cfB Tryz.prog 55=true:=by kernel_rfl
theorem cf_56:cfB Tryz.prog 56=true:=by kernel_rfl
theorem cf_57:cfB Tryz.prog 57=true:=by kernel_rfl
theorem cf_58:cfB Tryz.prog 58=true:=by kernel_rfl
theorem cf_59:cfB Tryz.prog 59=true:=by kernel_rfl
theorem cf_6:cfB Tryz.prog 6=true:=by kernel_rfl
theorem cf_60:cfB Tryz.prog 60=true:=by kernel_rfl
theorem cf_61:cfB Tryz.prog 61=true:=by kernel_rfl
theorem cf_62:cfB Tryz.prog 62=true:=by kernel_rfl
theorem cf_63:cfB Tryz.prog 63=true:=by kernel_rfl
theorem cf_64:cfB Tryz.prog 64=true:=by kernel_rfl
theorem cf_65:cfB Tryz.prog 65=true:=by kernel_rfl
theorem cf_66:cfB Tryz.prog 66=true:=by kernel_rfl
theorem cf_67:cfB Tryz.prog 67=true:=by kernel_rfl
theorem cf_68:cfB Tryz.prog 68=true:=by kernel_rfl
theorem cf_69:cfB Tryz.prog 69=true:=by kernel_rfl
theorem cf_7:cfB Tryz.prog 7=true:=by kernel_rfl
theorem cf_70:cfB Tryz.prog 70=true:=by kernel_rfl
theorem cf_71:cfB Tryz.prog 71=true:=by kernel_rfl
theorem cf_72:cfB Tryz.prog 72=true:=by kernel_rfl
theorem cf_73:cfB Tryz.prog 73=true:=by kernel_rfl
theorem cf_74:cfB Tryz.prog 74=true:=by kernel_rfl
theorem cf_75:cfB Tryz.prog 75=true:=by kernel_rfl
theorem cf_76:cfB Tryz.prog 76=true:=by kernel_rfl
theorem cf_77:cfB Tryz.prog 77=true:=by kernel_rfl
theorem cf_78:cfB Tryz.prog 78=true:=by kernel_rfl
theorem cf_79:cfB Tryz.prog 79=true:=by kernel_rfl
theorem cf_8:cfB Tryz.prog 8=true:=by kernel_rfl
theorem cf_80:cfB Tryz.prog 80=true:=by kernel_rfl
theorem cf_81:cfB Tryz.prog 81=true:=by kernel_rfl
theorem cf_9:cfB Tryz.prog 9=true:=by kernel_rfl
theorem cf_94:cfB Tryz.prog 94=true:=by kernel_rfl
theorem cf_96:cfB Tryz.prog 96=true:=by kernel_rfl
theorem cf_97:cfB Tryz.prog 97=true:=by kernel_rfl
theorem cf_98:cfB Tryz.prog 98=true:=by kernel_rfl
theorem cf_99:cfB Tryz.prog 99=true:=by kernel_rfl
theorem el_116:EL Tryz.prog 116 3 24:=elB.EL (by kernel_rfl)
theorem el_139:EL Tryz.prog 139 6 48:=elB.EL (by kernel_rfl)
theorem el_148:EL Tryz.prog 148 4 80:=elB.EL (by kernel_rfl)
theorem el_170:EL Tryz.prog 170 1 8:=elB.EL (by kernel_rfl)
theorem el_181:EL Tryz.prog 181 5 40:=elB.EL (by kernel_rfl)
theorem el_243:EL Tryz.prog 243 2 16:=elB.EL (by kernel_rfl)
theorem el_3:EL Tryz.prog 3 1 8:=elB.EL (by kernel_rfl)
theorem el_4:EL Tryz.prog 4 1 1:=elB.EL (by kernel_rfl)
theorem el_5:EL Tryz.prog 5 1 1:=elB.EL (by kernel_rfl)
theorem el_9:EL Tryz.prog 9 1 16:=elB.EL (by kernel_rfl)
theorem el_93:EL Tryz.prog 93 2 16:=elB.EL (by kernel_rfl)
theorem fa_104_0:faB Tryz.prog 104 0 0=true:=by kernel_rfl
theorem fa_104_1:faB Tryz.prog 104 1 1=true:=by kernel_rfl
theorem fa_104_2:faB Tryz.prog 104 2 2=true:=by kernel_rfl
theorem fa_110_0:faB Tryz.prog 110 0 0=true:=by kernel_rfl
theorem fa_110_1:faB Tryz.prog 110 1 1=true:=by kernel_rfl
theorem fa_114_0:faB Tryz.prog 114 0 0=true:=by kernel_rfl
theorem fa_114_1:faB Tryz.prog 114 1 1=true:=by kernel_rfl
theorem fa_114_2:faB Tryz.prog 114 2 3=true:=by kernel_rfl
theorem fa_114_3:faB Tryz.prog 114 3 4=true:=by kernel_rfl
theorem fa_114_4:faB Tryz.prog 114 4 5=true:=by kernel_rfl
theorem fa_116_0:faB Tryz.prog 116 0 0=true:=by kernel_rfl
theorem fa_116_1:faB Tryz.prog 116 1 1=true:=by kernel_rfl
theorem fa_116_2:faB Tryz.prog 116 2 2=true:=by kernel_rfl
theorem fa_119_0:faB Tryz.prog 119 0 0=true:=by kernel_rfl
theorem fa_119_1:faB Tryz.prog 119 1 1=true:=by kernel_rfl
theorem fa_121_0:faB Tryz.prog 121 0 0=true:=by kernel_rfl
theorem fa_125_0:faB Tryz.prog 125 0 0=true:=by kernel_rfl
theorem fa_125_1:faB Tryz.prog 125 1 1=true:=by kernel_rfl
theorem fa_139_0:faB Tryz.prog 139 0 0=true:=by kernel_rfl
theorem fa_139_1:faB Tryz.prog 139 1 1=true:=by kernel_rfl
theorem fa_139_2:faB Tryz.prog 139 2 2=true:=by kernel_rfl
theorem fa_139_3:faB Tryz.prog 139 3 3=true:=by kernel_rfl
theorem fa_139_4:faB Tryz.prog 139 4 5=true:=by kernel_rfl
theorem fa_148_0:faB Tryz.prog 148 0 0=true:=by kernel_rfl
theorem fa_148_1:faB Tryz.prog 148 1 1=true:=by kernel_rfl
theorem fa_148_2:faB Tryz.prog 148 2 2=true:=by kernel_rfl
theorem fa_148_3:faB Tryz.prog 148 3 3=true:=by kernel_rfl
theorem fa_155_0:faB Tryz.prog 155 0 0=true:=by kernel_rfl
theorem fa_155_1:faB Tryz.prog 155 1 1=true:=by kernel_rfl
theorem fa_155_2:faB Tryz.prog 155 2 2=true:=by kernel_rfl
theorem fa_155_3:faB Tryz.prog 155 3 8=true:=by kernel_rfl
theorem fa_169_0:faB Tryz.prog 169 0 0=true:=by kernel_rfl
theorem fa_169_1:faB Tryz.prog 169 1 1=true:=by kernel_rfl
theorem fa_169_2:faB Tryz.prog 169 2 2=true:=by kernel_rfl
theorem fa_169_3:faB Tryz.prog 169 3 3=true:=by kernel_rfl
theorem fa_181_0:faB Tryz.prog 181 0 0=true:=by kernel_rfl
theorem fa_181_1:faB Tryz.prog 181 1 1=true:=by kernel_rfl
theorem fa_181_2:faB Tryz.prog 181 2 2=true:=by kernel_rfl
theorem fa_181_3:faB Tryz.prog 181 3 3=true:=by kernel_rfl
theorem fa_181_4:faB Tryz.prog 181 4 4=true:=by kernel_rfl
theorem fa_184_0:faB Tryz.prog 184 0 0=true:=by kernel_rfl
theorem fa_184_1:faB Tryz.prog 184 1 1=true:=by kernel_rfl
theorem fa_184_2:faB Tryz.prog 184 2 7=true:=by kernel_rfl
theorem fa_184_3:faB Tryz.prog 184 3 8=true:=by kernel_rfl
theorem fa_243_0:faB Tryz.prog 243 0 0=true:=by kernel_rfl
theorem fa_243_1:faB Tryz.prog 243 1 1=true:=by kernel_rfl
theorem fa_31_0:faB Tryz.prog 31 0 0=true:=by kernel_rfl
theorem fa_44_0:faB Tryz.prog 44 0 0=true:=by kernel_rfl
theorem fa_44_1:faB Tryz.prog 44 1 1=true:=by kernel_rfl
theorem fa_46_0:faB Tryz.prog 46 0 0=true:=by kernel_rfl
theorem fa_46_1:faB Tryz.prog 46 1 2=true:=by kernel_rfl
theorem fa_50_0:faB Tryz.prog 50 0 0=true:=by kernel_rfl
theorem fa_50_1:faB Tryz.prog 50 1 1=true:=by kernel_rfl
theorem fa_62_0:faB Tryz.prog 62 0 0=true:=by kernel_rfl
theorem fa_62_1:faB Tryz.prog 62 1 1=true:=by kernel_rfl
theorem fa_62_2:faB Tryz.prog 62 2 7=true:=by kernel_rfl
theorem fa_62_3:faB Tryz.prog 62 3 10=true:=by kernel_rfl
theorem fa_67_0:faB Tryz.prog 67 0 0=true:=by kernel_rfl
theorem fa_67_1:faB Tryz.prog 67 1 1=true:=by kernel_rfl
theorem fa_73_0:faB Tryz.prog 73 0 0=true:=by kernel_rfl
theorem fa_73_1:faB Tryz.prog 73 1 2=true:=by kernel_rfl
theorem fa_73_2:faB Tryz.prog 73 2 8=true:=by kernel_rfl
theorem fa_73_3:faB Tryz.prog 73 3 11=true:=by kernel_rfl
theorem fa_91_0:faB Tryz.prog 91 0 0=true:=by kernel_rfl
theorem fa_91_1:faB Tryz.prog 91 1 1=true:=by kernel_rfl
theorem fa_91_2:faB Tryz.prog 91 2 2=true:=by kernel_rfl
theorem fa_93_0:faB Tryz.prog 93 0 0=true:=by kernel_rfl
theorem fa_93_1:faB Tryz.prog 93 1 1=true:=by kernel_rfl
theorem mo:Tryz.prog.follows .mixedOrders=true:=by kernel_rfl
theorem pl_104:PL Tryz.prog 104 [(0,1),(1,1),(2,1)]:=⟨_,Tryz.underlying104,by kernel_rfl⟩
theorem pl_110:PL Tryz.prog 110 [(0,1),(1,1)]:=⟨_,Tryz.underlying110,by kernel_rfl⟩
theorem pl_114:PL Tryz.prog 114 [(0,1),(1,2),(3,1),(4,1),(5,1)]:=⟨_,Tryz.underlying114,by kernel_rfl⟩
theorem pl_116:PL Tryz.prog 116 [(0,1),(1,1),(2,1)]:=⟨_,Tryz.underlying116,by kernel_rfl⟩
theorem pl_119:PL Tryz.prog 119 [(0,1),(1,1)]:=⟨_,Tryz.underlying119,by kernel_rfl⟩
theorem pl_121:PL Tryz.prog 121 [(0,1)]:=⟨_,Tryz.underlying121,by kernel_rfl⟩
theorem pl_125:PL Tryz.prog 125 [(0,1),(1,1)]:=⟨_,Tryz.underlying125,by kernel_rfl⟩
theorem pl_139:PL Tryz.prog 139 [(0,1),(1,1),(2,1),(3,2),(5,1)]:=⟨_,Tryz.underlying139,by kernel_rfl⟩
theorem pl_148:PL Tryz.prog 148 [(0,1),(1,1),(2,1),(3,1)]:=⟨_,Tryz.underlying148,by kernel_rfl⟩
theorem pl_155:PL Tryz.prog 155 [(0,1),(1,1),(2,6),(8,1)]:=⟨_,Tryz.underlying155,by kernel_rfl⟩
theorem pl_169:PL Tryz.prog 169 [(0,1),(1,1),(2,1),(3,1)]:=⟨_,Tryz.underlying169,by kernel_rfl⟩
theorem pl_181:PL Tryz.prog 181 [(0,1),(1,1),(2,1),(3,1),(4,1)]:=⟨_,Tryz.underlying181,by kernel_rfl⟩
theorem pl_184:PL Tryz.prog 184 [(0,1),(1,6),(7,1),(8,1)]:=⟨_,Tryz.underlying184,by kernel_rfl⟩
theorem pl_243:PL Tryz.prog 243 [(0,1),(1,1)]:=⟨_,Tryz.underlying243,by kernel_rfl⟩
theorem pl_31:PL Tryz.prog 31 [(0,1),(1,1)]:=⟨_,Tryz.underlying31,by kernel_rfl⟩
theorem pl_46:PL Tryz.prog 46 [(0,2),(2,1)]:=⟨_,Tryz.underlying46,by kernel_rfl⟩
theorem pl_50:PL Tryz.prog 50 [(0,1),(1,1)]:=⟨_,Tryz.underlying50,by kernel_rfl⟩
theorem pl_62:PL Tryz.prog 62 [(0,1),(1,6),(7,3),(10,1)]:=⟨_,Tryz.underlying62,by kernel_rfl⟩
theorem pl_73:PL Tryz.prog 73 [(0,2),(2,6),(8,3),(11,1)]:=⟨_,Tryz.underlying73,by kernel_rfl⟩
theorem pl_91:PL Tryz.prog 91 [(0,1),(1,1),(2,1)]:=⟨_,Tryz.underlying91,by kernel_rfl⟩
theorem pl_93:PL Tryz.prog 93 [(0,1),(1,1)]:=⟨_,Tryz.underlying93,by kernel_rfl⟩
theorem ta_104:taB Tryz.prog 104 3=true:=by kernel_rfl
theorem ta_105:taB Tryz.prog 105 6=true:=by kernel_rfl
theorem ta_116:taB Tryz.prog 116 3=true:=by kernel_rfl
theorem ta_139:taB Tryz.prog 139 6=true:=by kernel_rfl
theorem ta_148:taB Tryz.prog 148 4=true:=by kernel_rfl
theorem ta_181:taB Tryz.prog 181 5=true:=by kernel_rfl
theorem ta_243:taB Tryz.prog 243 2=true:=by kernel_rfl
theorem ta_31:taB Tryz.prog 31 2=true:=by kernel_rfl
theorem ta_38:taB Tryz.prog 38 6=true:=by kernel_rfl
theorem ta_60:taB Tryz.prog 60 3=true:=by kernel_rfl
theorem ta_91:taB Tryz.prog 91 3=true:=by kernel_rfl
theorem ta_93:taB Tryz.prog 93 2=true:=by kernel_rfl
theorem tc_107:tcB Tryz.prog 107=true:=by kernel_rfl
theorem tc_108:tcB Tryz.prog 108=true:=by kernel_rfl
theorem tc_112:tcB Tryz.prog 112=true:=by kernel_rfl
theorem tc_117:tcB Tryz.prog 117=true:=by kernel_rfl
theorem tc_122:tcB Tryz.prog 122=true:=by kernel_rfl
theorem tc_152:tcB Tryz.prog 152=true:=by kernel_rfl
theorem tc_167:tcB Tryz.prog 167=true:=by kernel_rfl
theorem tc_170:tcB Tryz.prog 170=true:=by kernel_rfl
theorem tc_182:tcB Tryz.prog 182=true:=by kernel_rfl
theorem tc_22:tcB Tryz.prog 22=true:=by kernel_rfl
theorem tc_3:tcB Tryz.prog 3=true:=by kernel_rfl
theorem tc_39:tcB Tryz.prog 39=true:=by kernel_rfl
theorem tc_4:tcB Tryz.prog 4=true:=by kernel_rfl
theorem tc_41:tcB Tryz.prog 41=true:=by kernel_rfl
theorem tc_42:tcB Tryz.prog 42=true:=by kernel_rfl
theorem tc_47:tcB Tryz.prog 47=true:=by kernel_rfl
theorem tc_55:tcB Tryz.prog 55=true:=by kernel_rfl
theorem tc_57:tcB Tryz.prog 57=true:=by kernel_rfl
theorem tc_59:tcB Tryz.prog 59=true:=by kernel_rfl
theorem tc_64:tcB Tryz.prog 64=true:=by kernel_rfl
theorem tc_65:tcB Tryz.prog 65=true:=by kernel_rfl
theorem tc_68:tcB Tryz.prog 68=true:=by kernel_rfl
theorem tc_70:tcB Tryz.prog 70=true:=by kernel_rfl
theorem tc_71:tcB Tryz.prog 71=true:=by kernel_rfl
theorem tc_89:tcB Tryz.prog 89=true:=by kernel_rfl
theorem tc_9:tcB Tryz.prog 9=true:=by kernel_rfl
theorem zo_139:zoB Tryz.prog 139=true:=by kernel_rfl
theorem zo_9:zoB Tryz.prog 9=true:=by kernel_rfl
theorem zr_104:ZR Tryz.prog 104 [.int .i64 0,.int .i64 0,.int .i64 0]:=by unfold ZR;kernel_rfl
theorem zr_105:ZR Tryz.prog 105 [.int .i64 0,.int .i64 0,.int .i64 0,.int .i64 0,.int .i64 0,.int .i64 0]:=by unfold ZR;kernel_rfl
theorem zr_110:ZR Tryz.prog 110 [.pointer Option.none,.slice Option.none 0 0]:=by unfold ZR;kernel_rfl
theorem zr_114:ZR Tryz.prog 114 [.int .i64 0,.int .i64 0,.int .i64 0,.slice Option.none 0 0,.slice Option.none 0 0,.slice Option.none 0 0]:=by unfold ZR;kernel_rfl
theorem zr_116:ZR Tryz.prog 116 [.int .i64 0,.int .i64 0,.int .i64 0]:=by unfold ZR;kernel_rfl
theorem zr_119:ZR Tryz.prog 119 [.slice Option.none 0 0,.slice Option.none 0 0]:=by unfold ZR;kernel_rfl
theorem zr_121:ZR Tryz.prog 121 [.slice Option.none 0 0]:=by unfold ZR;kernel_rfl
theorem zr_125:ZR Tryz.prog 125 [.pointer Option.none,.int .i64 0]:=by unfold ZR;kernel_rfl
theorem zr_139:ZR Tryz.prog 139 [.int .i64 0,.int .i64 0,.int .i64 0,.int .i64 0,.int .i64 0,.bool false]:=by unfold ZR;kernel_rfl
theorem zr_148:ZR Tryz.prog 148 [.slice Option.none 0 0,.int .i64 0,.slice Option.none 0 0,.slice Option.none 0 0]:=by unfold ZR;kernel_rfl
theorem zr_155:ZR Tryz.prog 155 [.pointer Option.none,.int .i64 0,.int .i64 0,.int .i64 0,.int .i64 0,.int .i64 0,.int .i64 0,.int .i64 0,.slice Option.none 0 0]:=by unfold ZR;kernel_rfl
theorem zr_169:ZR Tryz.prog 169 [.slice Option.none 0 0,.int .i64 0,.slice Option.none 0 0,.slice Option.none 0 0]:=by unfold ZR;kernel_rfl
theorem zr_170:ZR Tryz.prog 170 [.pointer Option.none]:=by unfold ZR;kernel_rfl
theorem zr_181:ZR Tryz.prog 181 [.int .i64 0,.int .i64 0,.int .i64 0,.int .i64 0,.bool false]:=by unfold ZR;kernel_rfl
theorem zr_184:ZR Tryz.prog 184 [.int .i64 0,.int .i64 0,.int .i64 0,.int .i64 0,.int .i64 0,.int .i64 0,.int .i64 0,.slice Option.none 0 0,.slice Option.none 0 0]:=by unfold ZR;kernel_rfl
theorem zr_22:ZR Tryz.prog 22 [.slice Option.none 0 0]:=by unfold ZR;kernel_rfl
theorem zr_243:ZR Tryz.prog 243 [.int .i64 0,.bool false]:=by unfold ZR;kernel_rfl
theorem zr_3:ZR Tryz.prog 3 [.int .i64 0]:=by unfold ZR;kernel_rfl
theorem zr_31:ZR Tryz.prog 31 [.int .i64 0,.int .i64 0]:=by unfold ZR;kernel_rfl
theorem zr_38:ZR Tryz.prog 38 [.int .i64 0,.int .i64 0,.int .i64 0,.int .i64 0,.int .i64 0,.int .i64 0]:=by unfold ZR;kernel_rfl
theorem zr_4:ZR Tryz.prog 4 [.bool false]:=by unfold ZR;kernel_rfl
theorem zr_46:ZR Tryz.prog 46 [.pointer Option.none,.slice Option.none 0 0,.pointer Option.none]:=by unfold ZR;kernel_rfl
theorem zr_50:ZR Tryz.prog 50 [.string ByteArray.empty,.pointer Option.none]:=by unfold ZR;kernel_rfl
theorem zr_62:ZR Tryz.prog 62 [.pointer Option.none,.int .i64 0,.int .i64 0,.int .i64 0,.int .i64 0,.int .i64 0,.int .i64 0,.pointer Option.none,.pointer Option.none,.pointer Option.none,.pointer Option.none]:=by unfold ZR;kernel_rfl
theorem zr_65:ZR Tryz.prog 65 [.slice Option.none 0 0]:=by unfold ZR;kernel_rfl
theorem zr_73:ZR Tryz.prog 73 [.slice Option.none 0 0,.slice Option.none 0 0,.int .i64 0,.int .i64 0,.int .i64 0,.int .i64 0,.int .i64 0,.int .i64 0,.pointer Option.none,.pointer Option.none,.pointer Option.none,.slice Option.none 0 0]:=by unfold ZR;kernel_rfl
theorem zr_9:ZR Tryz.prog 9 [.string ByteArray.empty]:=by unfold ZR;kernel_rfl
theorem zr_91:ZR Tryz.prog 91 [.int .i64 0,.int .i64 0,.slice Option.none 0 0]:=by unfold ZR;kernel_rfl
theorem zr_93:ZR Tryz.prog 93 [.int .i64 0,.int .i64 0]:=by unfold ZR;kernel_rfl
end Go.Proofs.YtmakdilmibjpbaaGreatDoor
