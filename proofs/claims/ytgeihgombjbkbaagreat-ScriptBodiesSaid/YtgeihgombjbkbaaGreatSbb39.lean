/- For scbodies_law_holds. -/
import Derived.Test.YtgeihgombjbkbaaGreatProg
import Derived.Test.YtgeihgombjbkbaaGreatSbb38
namespace Go.Proofs.YtgeihgombjbkbaaGreat
open Go Go.Proofs.Rn
theorem ed0:Tryz.prog.leadsTo Tryz.f0 = []:=by kernel_rfl
theorem ip0:inP Tryz.f0=true:=by kernel_rfl
theorem ed1:Tryz.prog.leadsTo Tryz.f1 = []:=by kernel_rfl
theorem ip1:inP Tryz.f1=true:=by kernel_rfl
theorem ed2:Tryz.prog.leadsTo Tryz.f2 = [1]:=by kernel_rfl
theorem ip2:inP Tryz.f2=false:=by kernel_rfl
theorem ed3:Tryz.prog.leadsTo Tryz.f3 = [6,7,8,10,9,6,11,6]:=by kernel_rfl
theorem ip3:inP Tryz.f3=false:=by kernel_rfl
theorem ed4:Tryz.prog.leadsTo Tryz.f4 = [6,12,7,8,10,9,7,6]:=by kernel_rfl
theorem ip4:inP Tryz.f4=false:=by kernel_rfl
theorem ed5:Tryz.prog.leadsTo Tryz.f5 = [13,13,6,10,10,14,15,16,9,16,11,15,6,17,6,7,18,10,9,6]:=by kernel_rfl
theorem ip5:inP Tryz.f5=false:=by kernel_rfl
theorem ed6:Tryz.prog.leadsTo Tryz.f6 = [19,20,11,19]:=by kernel_rfl
theorem ip6:inP Tryz.f6=false:=by kernel_rfl
theorem ed7:Tryz.prog.leadsTo Tryz.f7 = [21,22,23,24,23,25,26,27,14]:=by kernel_rfl
theorem ip7:inP Tryz.f7=false:=by kernel_rfl
theorem ed8:Tryz.prog.leadsTo Tryz.f8 = [28,29,29,29,29,29,29,29,30,29,31,32,15]:=by kernel_rfl
theorem ip8:inP Tryz.f8=false:=by kernel_rfl
theorem ed9:Tryz.prog.leadsTo Tryz.f9 = [33]:=by kernel_rfl
theorem ip9:inP Tryz.f9=false:=by kernel_rfl
theorem bLL:Tryz.prog.leadsTo Tryz.f10 = [34]:=by kernel_rfl
theorem bNd:inP Tryz.f10=false:=by kernel_rfl
theorem bLM:Tryz.prog.leadsTo Tryz.f11 = [14,35,36,35,37,39,38]:=by kernel_rfl
theorem bNe:inP Tryz.f11=false:=by kernel_rfl
theorem bLN:Tryz.prog.leadsTo Tryz.f12 = [40]:=by kernel_rfl
theorem bNf:inP Tryz.f12=false:=by kernel_rfl
theorem bLO:Tryz.prog.leadsTo Tryz.f13 = [41]:=by kernel_rfl
theorem bNg:inP Tryz.f13=false:=by kernel_rfl
theorem bLP:Tryz.prog.leadsTo Tryz.f14 = [42,43,44]:=by kernel_rfl
theorem bNh:inP Tryz.f14=false:=by kernel_rfl
theorem bLQ:Tryz.prog.leadsTo Tryz.f15 = [46,47]:=by kernel_rfl
theorem bNi:inP Tryz.f15=false:=by kernel_rfl
theorem bLR:Tryz.prog.leadsTo Tryz.f16 = [48,49]:=by kernel_rfl
theorem bNj:inP Tryz.f16=false:=by kernel_rfl
theorem bLS:Tryz.prog.leadsTo Tryz.f17 = [52,53,52,52,53,54,55,56,57,52,52]:=by kernel_rfl
theorem bNk:inP Tryz.f17=false:=by kernel_rfl
theorem bLT:Tryz.prog.leadsTo Tryz.f18 = [12]:=by kernel_rfl
theorem bNl:inP Tryz.f18=false:=by kernel_rfl
theorem bLU:Tryz.prog.leadsTo Tryz.f19 = [7,58,59,60,61,61,62,63,64,65,66,68,67,69]:=by kernel_rfl
theorem bNm:inP Tryz.f19=false:=by kernel_rfl
theorem bLV:Tryz.prog.leadsTo Tryz.f20 = []:=by kernel_rfl
theorem bNn:inP Tryz.f20=false:=by kernel_rfl
theorem bLW:Tryz.prog.leadsTo Tryz.f21 = [70,71]:=by kernel_rfl
theorem bNo:inP Tryz.f21=false:=by kernel_rfl
theorem bLX:Tryz.prog.leadsTo Tryz.f22 = []:=by kernel_rfl
theorem bNp:inP Tryz.f22=false:=by kernel_rfl
theorem bLY:Tryz.prog.leadsTo Tryz.f23 = [72]:=by kernel_rfl
theorem bNq:inP Tryz.f23=false:=by kernel_rfl
theorem bLZ:Tryz.prog.leadsTo Tryz.f24 = [72]:=by kernel_rfl
theorem bNr:inP Tryz.f24=false:=by kernel_rfl
theorem bL0:Tryz.prog.leadsTo Tryz.f25 = []:=by kernel_rfl
theorem bNs:inP Tryz.f25=false:=by kernel_rfl
theorem bL1:Tryz.prog.leadsTo Tryz.f26 = [23,24,73,74,75]:=by kernel_rfl
theorem bNt:inP Tryz.f26=false:=by kernel_rfl
theorem bL2:Tryz.prog.leadsTo Tryz.f27 = []:=by kernel_rfl
theorem bNu:inP Tryz.f27=false:=by kernel_rfl
theorem bL3:Tryz.prog.leadsTo Tryz.f28 = [12]:=by kernel_rfl
theorem bNv:inP Tryz.f28=false:=by kernel_rfl
theorem bL4:Tryz.prog.leadsTo Tryz.f29 = [76,77,78]:=by kernel_rfl
theorem bNw:inP Tryz.f29=false:=by kernel_rfl
theorem bL5:Tryz.prog.leadsTo Tryz.f30 = [76,77,78]:=by kernel_rfl
theorem bNx:inP Tryz.f30=false:=by kernel_rfl
theorem bL6:Tryz.prog.leadsTo Tryz.f31 = [29,29,29,30,29,79,80,78,29,29,29]:=by kernel_rfl
theorem bNy:inP Tryz.f31=false:=by kernel_rfl
theorem bL7:Tryz.prog.leadsTo Tryz.f32 = []:=by kernel_rfl
theorem bNz:inP Tryz.f32=false:=by kernel_rfl
theorem bL8:Tryz.prog.leadsTo Tryz.f33 = [81]:=by kernel_rfl
theorem bNA:inP Tryz.f33=false:=by kernel_rfl
theorem bL9:Tryz.prog.leadsTo Tryz.f34 = [82]:=by kernel_rfl
theorem bNB:inP Tryz.f34=false:=by kernel_rfl
theorem bMa:Tryz.prog.leadsTo Tryz.f35 = [83]:=by kernel_rfl
theorem bNC:inP Tryz.f35=false:=by kernel_rfl
theorem bMb:Tryz.prog.leadsTo Tryz.f36 = [83,83]:=by kernel_rfl
theorem bND:inP Tryz.f36=false:=by kernel_rfl
theorem bMc:Tryz.prog.leadsTo Tryz.f37 = [35,36,35,84,85,86,35,35]:=by kernel_rfl
theorem bNE:inP Tryz.f37=false:=by kernel_rfl
theorem bMd:Tryz.prog.leadsTo Tryz.f38 = [87]:=by kernel_rfl
theorem bNF:inP Tryz.f38=false:=by kernel_rfl
theorem bMe:Tryz.prog.leadsTo Tryz.f39 = [71]:=by kernel_rfl
theorem bNG:inP Tryz.f39=false:=by kernel_rfl
theorem bMf:Tryz.prog.leadsTo Tryz.f40 = [88]:=by kernel_rfl
theorem bNH:inP Tryz.f40=false:=by kernel_rfl
theorem bMg:Tryz.prog.leadsTo Tryz.f41 = [89]:=by kernel_rfl
theorem bNI:inP Tryz.f41=false:=by kernel_rfl
theorem bMh:Tryz.prog.leadsTo Tryz.f42 = [91,90]:=by kernel_rfl
theorem bNJ:inP Tryz.f42=false:=by kernel_rfl
theorem bMi:Tryz.prog.leadsTo Tryz.f43 = [92]:=by kernel_rfl
theorem bNK:inP Tryz.f43=false:=by kernel_rfl
theorem bMj:Tryz.prog.leadsTo Tryz.f44 = [45]:=by kernel_rfl
theorem bNL:inP Tryz.f44=false:=by kernel_rfl
theorem bMk:Tryz.prog.leadsTo Tryz.f45 = [84,93]:=by kernel_rfl
theorem bNM:inP Tryz.f45=false:=by kernel_rfl
theorem bMl:Tryz.prog.leadsTo Tryz.f46 = [95,94]:=by kernel_rfl
theorem bNN:inP Tryz.f46=false:=by kernel_rfl
theorem bMm:Tryz.prog.leadsTo Tryz.f47 = [55,96]:=by kernel_rfl
theorem bNO:inP Tryz.f47=false:=by kernel_rfl
theorem bMn:Tryz.prog.leadsTo Tryz.f48 = []:=by kernel_rfl
theorem bNP:inP Tryz.f48=false:=by kernel_rfl
theorem bMo:Tryz.prog.leadsTo Tryz.f49 = [50,51]:=by kernel_rfl
theorem bNQ:inP Tryz.f49=false:=by kernel_rfl
theorem bMp:Tryz.prog.leadsTo Tryz.f50 = [97,98]:=by kernel_rfl
theorem bNR:inP Tryz.f50=false:=by kernel_rfl
theorem bMq:Tryz.prog.leadsTo Tryz.f51 = []:=by kernel_rfl
theorem bNS:inP Tryz.f51=false:=by kernel_rfl
theorem bMr:Tryz.prog.leadsTo Tryz.f52 = [54]:=by kernel_rfl
theorem bNT:inP Tryz.f52=false:=by kernel_rfl
theorem bMs:Tryz.prog.leadsTo Tryz.f53 = [54,54]:=by kernel_rfl
theorem bNU:inP Tryz.f53=false:=by kernel_rfl
theorem bMt:Tryz.prog.leadsTo Tryz.f54 = []:=by kernel_rfl
theorem bNV:inP Tryz.f54=false:=by kernel_rfl
theorem bMu:Tryz.prog.leadsTo Tryz.f55 = [81]:=by kernel_rfl
theorem bNW:inP Tryz.f55=false:=by kernel_rfl
theorem bMv:Tryz.prog.leadsTo Tryz.f56 = [96,54,54,54,54,99,100,54,53]:=by kernel_rfl
theorem bNX:inP Tryz.f56=false:=by kernel_rfl
theorem bMw:Tryz.prog.leadsTo Tryz.f57 = [54]:=by kernel_rfl
theorem bNY:inP Tryz.f57=false:=by kernel_rfl
theorem bMx:Tryz.prog.leadsTo Tryz.f58 = [14,101,102,103]:=by kernel_rfl
theorem bNZ:inP Tryz.f58=false:=by kernel_rfl
theorem bMy:Tryz.prog.leadsTo Tryz.f59 = [104,105]:=by kernel_rfl
theorem bN0:inP Tryz.f59=false:=by kernel_rfl
theorem bMz:Tryz.prog.leadsTo Tryz.f60 = [104,106]:=by kernel_rfl
theorem bN1:inP Tryz.f60=false:=by kernel_rfl
theorem bMA:Tryz.prog.leadsTo Tryz.f61 = [107]:=by kernel_rfl
theorem bN2:inP Tryz.f61=false:=by kernel_rfl
theorem bMB:Tryz.prog.leadsTo Tryz.f62 = [107,108]:=by kernel_rfl
theorem bN3:inP Tryz.f62=false:=by kernel_rfl
theorem bMC:Tryz.prog.leadsTo Tryz.f63 = [109,71,110]:=by kernel_rfl
theorem bN4:inP Tryz.f63=false:=by kernel_rfl
theorem bMD:Tryz.prog.leadsTo Tryz.f64 = []:=by kernel_rfl
theorem bN5:inP Tryz.f64=false:=by kernel_rfl
theorem bME:Tryz.prog.leadsTo Tryz.f65 = []:=by kernel_rfl
theorem bN6:inP Tryz.f65=false:=by kernel_rfl
theorem bMF:Tryz.prog.leadsTo Tryz.f66 = []:=by kernel_rfl
theorem bN7:inP Tryz.f66=false:=by kernel_rfl
theorem bMG:Tryz.prog.leadsTo Tryz.f67 = [111,112]:=by kernel_rfl
theorem bN8:inP Tryz.f67=false:=by kernel_rfl
theorem bMH:Tryz.prog.leadsTo Tryz.f68 = [113,114]:=by kernel_rfl
theorem bN9:inP Tryz.f68=false:=by kernel_rfl
theorem bMI:Tryz.prog.leadsTo Tryz.f69 = [113,115]:=by kernel_rfl
theorem bOa:inP Tryz.f69=false:=by kernel_rfl
theorem bMJ:Tryz.prog.leadsTo Tryz.f70 = [116,117]:=by kernel_rfl
theorem bOb:inP Tryz.f70=false:=by kernel_rfl
theorem bMK:Tryz.prog.leadsTo Tryz.f71 = []:=by kernel_rfl
theorem bOc:inP Tryz.f71=false:=by kernel_rfl
theorem bML:Tryz.prog.leadsTo Tryz.f72 = [118,75,75,75]:=by kernel_rfl
theorem bOd:inP Tryz.f72=false:=by kernel_rfl
theorem bMM:Tryz.prog.leadsTo Tryz.f73 = [75,23,118,75,119]:=by kernel_rfl
theorem bOe:inP Tryz.f73=false:=by kernel_rfl
theorem bMN:Tryz.prog.leadsTo Tryz.f74 = [22,23,120,23,121,122,23,24,27,93]:=by kernel_rfl
theorem bOf:inP Tryz.f74=false:=by kernel_rfl
theorem bMO:Tryz.prog.leadsTo Tryz.f75 = []:=by kernel_rfl
theorem bOg:inP Tryz.f75=false:=by kernel_rfl
theorem bMP:Tryz.prog.leadsTo Tryz.f76 = []:=by kernel_rfl
theorem bOh:inP Tryz.f76=false:=by kernel_rfl
theorem bMQ:Tryz.prog.leadsTo Tryz.f77 = []:=by kernel_rfl
theorem bOi:inP Tryz.f77=false:=by kernel_rfl
theorem bMR:Tryz.prog.leadsTo Tryz.f78 = []:=by kernel_rfl
theorem bOj:inP Tryz.f78=false:=by kernel_rfl
theorem bMS:Tryz.prog.leadsTo Tryz.f79 = [78,29,78,123]:=by kernel_rfl
theorem bOl:inP Tryz.f79=false:=by kernel_rfl
theorem bMT:Tryz.prog.leadsTo Tryz.f80 = [29,29,29,29,124,125,29,30,32,96]:=by kernel_rfl
theorem bOm:inP Tryz.f80=false:=by kernel_rfl
theorem bMU:Tryz.prog.leadsTo Tryz.f81 = [126,127]:=by kernel_rfl
theorem bOn:inP Tryz.f81=false:=by kernel_rfl
theorem bMV:Tryz.prog.leadsTo Tryz.f82 = []:=by kernel_rfl
theorem bOo:inP Tryz.f82=false:=by kernel_rfl
theorem bMW:Tryz.prog.leadsTo Tryz.f83 = []:=by kernel_rfl
theorem bOp:inP Tryz.f83=false:=by kernel_rfl
theorem bMX:Tryz.prog.leadsTo Tryz.f84 = [50]:=by kernel_rfl
theorem bOq:inP Tryz.f84=false:=by kernel_rfl
theorem bMY:Tryz.prog.leadsTo Tryz.f85 = [93,120,35,35,128,129,35,36,39]:=by kernel_rfl
theorem bOr:inP Tryz.f85=false:=by kernel_rfl
theorem bMZ:Tryz.prog.leadsTo Tryz.f86 = [35,130]:=by kernel_rfl
theorem bOs:inP Tryz.f86=false:=by kernel_rfl
theorem bM0:Tryz.prog.leadsTo Tryz.f87 = [131]:=by kernel_rfl
theorem bOt:inP Tryz.f87=false:=by kernel_rfl
theorem bM1:Tryz.prog.leadsTo Tryz.f88 = [132]:=by kernel_rfl
theorem bOu:inP Tryz.f88=false:=by kernel_rfl
theorem bM2:Tryz.prog.leadsTo Tryz.f89 = [133]:=by kernel_rfl
theorem bOv:inP Tryz.f89=false:=by kernel_rfl
theorem bM3:Tryz.prog.leadsTo Tryz.f90 = [134]:=by kernel_rfl
theorem bOw:inP Tryz.f90=false:=by kernel_rfl
theorem bM4:Tryz.prog.leadsTo Tryz.f91 = []:=by kernel_rfl
theorem bOx:inP Tryz.f91=false:=by kernel_rfl
theorem bM5:Tryz.prog.leadsTo Tryz.f92 = []:=by kernel_rfl
theorem bOy:inP Tryz.f92=false:=by kernel_rfl
theorem bM6:Tryz.prog.leadsTo Tryz.f93 = [120,135,50,136,137]:=by kernel_rfl
theorem bOz:inP Tryz.f93=false:=by kernel_rfl
theorem bM7:Tryz.prog.leadsTo Tryz.f94 = [138]:=by kernel_rfl
theorem bOA:inP Tryz.f94=false:=by kernel_rfl
theorem bM8:Tryz.prog.leadsTo Tryz.f95 = []:=by kernel_rfl
theorem bOB:inP Tryz.f95=false:=by kernel_rfl
theorem bM9:Tryz.prog.leadsTo Tryz.f96 = [139,81,140,141]:=by kernel_rfl
theorem bOC:inP Tryz.f96=false:=by kernel_rfl
theorem bNa:Tryz.prog.leadsTo Tryz.f97 = [142,142]:=by kernel_rfl
theorem bOD:inP Tryz.f97=false:=by kernel_rfl
theorem bNb:Tryz.prog.leadsTo Tryz.f98 = [143]:=by kernel_rfl
theorem bOE:inP Tryz.f98=false:=by kernel_rfl
theorem bNc:Tryz.prog.leadsTo Tryz.f99 = [53,144,144]:=by kernel_rfl
theorem bOF:inP Tryz.f99=false:=by kernel_rfl
theorem aMw:Tryz.prog.leadsTo Tryz.f100 = [54,54,54,54,54,54]:=by kernel_rfl
theorem aX5:inP Tryz.f100=false:=by kernel_rfl
theorem aMx:Tryz.prog.leadsTo Tryz.f101 = [42,145,146,147,148,149]:=by kernel_rfl
theorem aX6:inP Tryz.f101=false:=by kernel_rfl
theorem aMy:Tryz.prog.leadsTo Tryz.f102 = [109,150]:=by kernel_rfl
theorem aX7:inP Tryz.f102=false:=by kernel_rfl
theorem aMz:Tryz.prog.leadsTo Tryz.f103 = [109,151,152,153,154,155,156,157,158,159,160,157]:=by kernel_rfl
theorem aX8:inP Tryz.f103=false:=by kernel_rfl
theorem aMA:Tryz.prog.leadsTo Tryz.f104 = [161]:=by kernel_rfl
theorem aX9:inP Tryz.f104=false:=by kernel_rfl
theorem aMB:Tryz.prog.leadsTo Tryz.f105 = [162]:=by kernel_rfl
theorem aYa:inP Tryz.f105=false:=by kernel_rfl
theorem aMC:Tryz.prog.leadsTo Tryz.f106 = [163]:=by kernel_rfl
theorem aYb:inP Tryz.f106=false:=by kernel_rfl
theorem aMD:Tryz.prog.leadsTo Tryz.f107 = []:=by kernel_rfl
theorem aYc:inP Tryz.f107=false:=by kernel_rfl
theorem aME:Tryz.prog.leadsTo Tryz.f108 = [164]:=by kernel_rfl
theorem aYd:inP Tryz.f108=false:=by kernel_rfl
theorem aMF:Tryz.prog.leadsTo Tryz.f109 = []:=by kernel_rfl
theorem aYe:inP Tryz.f109=false:=by kernel_rfl
theorem aMG:Tryz.prog.leadsTo Tryz.f110 = []:=by kernel_rfl
theorem aYf:inP Tryz.f110=false:=by kernel_rfl
theorem aMH:Tryz.prog.leadsTo Tryz.f111 = [165,166,167,168]:=by kernel_rfl
theorem aYg:inP Tryz.f111=false:=by kernel_rfl
theorem aMI:Tryz.prog.leadsTo Tryz.f112 = [107,74,62,169,170,171,172]:=by kernel_rfl
theorem aYh:inP Tryz.f112=false:=by kernel_rfl
theorem aMJ:Tryz.prog.leadsTo Tryz.f113 = [111]:=by kernel_rfl
theorem aYi:inP Tryz.f113=false:=by kernel_rfl
theorem aMK:Tryz.prog.leadsTo Tryz.f114 = [173,174,74]:=by kernel_rfl
theorem aYj:inP Tryz.f114=false:=by kernel_rfl
theorem aML:Tryz.prog.leadsTo Tryz.f115 = [114,175,176,177,178,179,180]:=by kernel_rfl
theorem aYk:inP Tryz.f115=false:=by kernel_rfl
theorem aMM:Tryz.prog.leadsTo Tryz.f116 = []:=by kernel_rfl
theorem aYl:inP Tryz.f116=false:=by kernel_rfl
theorem aMN:Tryz.prog.leadsTo Tryz.f117 = [181,71]:=by kernel_rfl
theorem aYm:inP Tryz.f117=false:=by kernel_rfl
theorem aMO:Tryz.prog.leadsTo Tryz.f118 = []:=by kernel_rfl
theorem aYn:inP Tryz.f118=false:=by kernel_rfl
theorem aMP:Tryz.prog.leadsTo Tryz.f119 = [118,75,71]:=by kernel_rfl
theorem aYo:inP Tryz.f119=false:=by kernel_rfl
theorem aMQ:Tryz.prog.leadsTo Tryz.f120 = []:=by kernel_rfl
theorem aYp:inP Tryz.f120=false:=by kernel_rfl
theorem aMR:Tryz.prog.leadsTo Tryz.f121 = [24,23,23,23,25,136,75]:=by kernel_rfl
theorem aYq:inP Tryz.f121=false:=by kernel_rfl
theorem aMS:Tryz.prog.leadsTo Tryz.f122 = [182,25,137,75]:=by kernel_rfl
theorem aYr:inP Tryz.f122=false:=by kernel_rfl
theorem aMT:Tryz.prog.leadsTo Tryz.f123 = [78]:=by kernel_rfl
theorem aYs:inP Tryz.f123=false:=by kernel_rfl
theorem aMU:Tryz.prog.leadsTo Tryz.f124 = [30,183,183,140,78]:=by kernel_rfl
theorem aYt:inP Tryz.f124=false:=by kernel_rfl
theorem aMV:Tryz.prog.leadsTo Tryz.f125 = [29,29,29,29,29,29,141,78]:=by kernel_rfl
theorem aYu:inP Tryz.f125=false:=by kernel_rfl
theorem aMW:Tryz.prog.leadsTo Tryz.f126 = [184,184]:=by kernel_rfl
theorem aYv:inP Tryz.f126=false:=by kernel_rfl
theorem aMX:Tryz.prog.leadsTo Tryz.f127 = []:=by kernel_rfl
theorem aYw:inP Tryz.f127=false:=by kernel_rfl
theorem aMY:Tryz.prog.leadsTo Tryz.f128 = [36,35,35]:=by kernel_rfl
theorem aYx:inP Tryz.f128=false:=by kernel_rfl
theorem aMZ:Tryz.prog.leadsTo Tryz.f129 = [35,35,35]:=by kernel_rfl
theorem aYy:inP Tryz.f129=false:=by kernel_rfl
theorem aM0:Tryz.prog.leadsTo Tryz.f130 = []:=by kernel_rfl
theorem aYz:inP Tryz.f130=false:=by kernel_rfl
theorem aM1:Tryz.prog.leadsTo Tryz.f131 = [185]:=by kernel_rfl
theorem aYA:inP Tryz.f131=false:=by kernel_rfl
theorem aM2:Tryz.prog.leadsTo Tryz.f132 = []:=by kernel_rfl
theorem aYB:inP Tryz.f132=false:=by kernel_rfl
theorem aM3:Tryz.prog.leadsTo Tryz.f133 = []:=by kernel_rfl
theorem aYC:inP Tryz.f133=false:=by kernel_rfl
theorem aM4:Tryz.prog.leadsTo Tryz.f134 = [186]:=by kernel_rfl
theorem aYD:inP Tryz.f134=false:=by kernel_rfl
theorem aM5:Tryz.prog.leadsTo Tryz.f135 = []:=by kernel_rfl
theorem aYE:inP Tryz.f135=false:=by kernel_rfl
theorem aM6:Tryz.prog.leadsTo Tryz.f136 = [187]:=by kernel_rfl
theorem aYF:inP Tryz.f136=false:=by kernel_rfl
theorem aM7:Tryz.prog.leadsTo Tryz.f137 = [188,188,188,188,188,188]:=by kernel_rfl
theorem aYG:inP Tryz.f137=false:=by kernel_rfl
theorem aM8:Tryz.prog.leadsTo Tryz.f138 = [189]:=by kernel_rfl
theorem aYH:inP Tryz.f138=false:=by kernel_rfl
theorem aM9:Tryz.prog.leadsTo Tryz.f139 = []:=by kernel_rfl
theorem aYI:inP Tryz.f139=false:=by kernel_rfl
theorem aNa:Tryz.prog.leadsTo Tryz.f140 = [190,191]:=by kernel_rfl
theorem aYJ:inP Tryz.f140=false:=by kernel_rfl
theorem aNb:Tryz.prog.leadsTo Tryz.f141 = []:=by kernel_rfl
theorem aYK:inP Tryz.f141=false:=by kernel_rfl
theorem aNc:Tryz.prog.leadsTo Tryz.f142 = [192,193]:=by kernel_rfl
theorem aYL:inP Tryz.f142=false:=by kernel_rfl
theorem aNd:Tryz.prog.leadsTo Tryz.f143 = []:=by kernel_rfl
theorem aYM:inP Tryz.f143=false:=by kernel_rfl
theorem aNe:Tryz.prog.leadsTo Tryz.f144 = [54,54,54]:=by kernel_rfl
theorem aYN:inP Tryz.f144=false:=by kernel_rfl
theorem aNf:Tryz.prog.leadsTo Tryz.f145 = []:=by kernel_rfl
theorem aYO:inP Tryz.f145=false:=by kernel_rfl
theorem aNg:Tryz.prog.leadsTo Tryz.f146 = [194]:=by kernel_rfl
theorem aYP:inP Tryz.f146=false:=by kernel_rfl
theorem aNh:Tryz.prog.leadsTo Tryz.f147 = [91,195]:=by kernel_rfl
theorem aYQ:inP Tryz.f147=false:=by kernel_rfl
theorem aNi:Tryz.prog.leadsTo Tryz.f148 = []:=by kernel_rfl
theorem aYR:inP Tryz.f148=false:=by kernel_rfl
theorem aNj:Tryz.prog.leadsTo Tryz.f149 = []:=by kernel_rfl
theorem aYS:inP Tryz.f149=false:=by kernel_rfl
theorem aNk:Tryz.prog.leadsTo Tryz.f150 = [156,196,197,155,161,198,199,200,160,158,159,201,202,204,203]:=by kernel_rfl
theorem aYT:inP Tryz.f150=false:=by kernel_rfl
theorem aNl:Tryz.prog.leadsTo Tryz.f151 = [206,208,209,207]:=by kernel_rfl
theorem aYU:inP Tryz.f151=false:=by kernel_rfl
theorem aNm:Tryz.prog.leadsTo Tryz.f152 = [210]:=by kernel_rfl
theorem aYV:inP Tryz.f152=false:=by kernel_rfl
theorem aNn:Tryz.prog.leadsTo Tryz.f153 = [161]:=by kernel_rfl
theorem aYW:inP Tryz.f153=false:=by kernel_rfl
theorem aNo:Tryz.prog.leadsTo Tryz.f154 = [211]:=by kernel_rfl
theorem aYX:inP Tryz.f154=false:=by kernel_rfl
theorem aNp:Tryz.prog.leadsTo Tryz.f155 = [161,212,154,147]:=by kernel_rfl
theorem aYY:inP Tryz.f155=false:=by kernel_rfl
theorem aNq:Tryz.prog.leadsTo Tryz.f156 = [161,213,203]:=by kernel_rfl
theorem aYZ:inP Tryz.f156=false:=by kernel_rfl
theorem aNr:Tryz.prog.leadsTo Tryz.f157 = [215,216,217,218,219]:=by kernel_rfl
theorem aY0:inP Tryz.f157=false:=by kernel_rfl
theorem aNs:Tryz.prog.leadsTo Tryz.f158 = [109]:=by kernel_rfl
theorem aY1:inP Tryz.f158=false:=by kernel_rfl
theorem aNt:Tryz.prog.leadsTo Tryz.f159 = [220,221]:=by kernel_rfl
theorem aY2:inP Tryz.f159=false:=by kernel_rfl
theorem aNu:Tryz.prog.leadsTo Tryz.f160 = [158,222,223,203]:=by kernel_rfl
theorem aY3:inP Tryz.f160=false:=by kernel_rfl
theorem aNv:Tryz.prog.leadsTo Tryz.f161 = [109]:=by kernel_rfl
theorem aY4:inP Tryz.f161=false:=by kernel_rfl
theorem aNw:Tryz.prog.leadsTo Tryz.f162 = [225,226,227,228,229]:=by kernel_rfl
theorem aY5:inP Tryz.f162=false:=by kernel_rfl
theorem aNx:Tryz.prog.leadsTo Tryz.f163 = [107,230,231,232,233,234]:=by kernel_rfl
theorem aY6:inP Tryz.f163=false:=by kernel_rfl
theorem aNy:Tryz.prog.leadsTo Tryz.f164 = []:=by kernel_rfl
theorem aY7:inP Tryz.f164=false:=by kernel_rfl
theorem aNz:Tryz.prog.leadsTo Tryz.f165 = []:=by kernel_rfl
theorem aY8:inP Tryz.f165=false:=by kernel_rfl
theorem aNA:Tryz.prog.leadsTo Tryz.f166 = [235]:=by kernel_rfl
theorem aY9:inP Tryz.f166=false:=by kernel_rfl
theorem aNB:Tryz.prog.leadsTo Tryz.f167 = []:=by kernel_rfl
theorem aZa:inP Tryz.f167=false:=by kernel_rfl
theorem aNC:Tryz.prog.leadsTo Tryz.f168 = []:=by kernel_rfl
theorem aZb:inP Tryz.f168=false:=by kernel_rfl
theorem aND:Tryz.prog.leadsTo Tryz.f169 = []:=by kernel_rfl
theorem aZc:inP Tryz.f169=false:=by kernel_rfl
theorem aNE:Tryz.prog.leadsTo Tryz.f170 = [236,110]:=by kernel_rfl
theorem aZd:inP Tryz.f170=false:=by kernel_rfl
theorem aNF:Tryz.prog.leadsTo Tryz.f171 = [237,62,169,238,62,169,239,62,169,240,241,62,242,243,244,243,245]:=by kernel_rfl
theorem aZe:inP Tryz.f171=false:=by kernel_rfl
theorem aNG:Tryz.prog.leadsTo Tryz.f172 = [236,246,247,110]:=by kernel_rfl
theorem aZf:inP Tryz.f172=false:=by kernel_rfl
theorem aNH:Tryz.prog.leadsTo Tryz.f173 = [163,112]:=by kernel_rfl
theorem aZg:inP Tryz.f173=false:=by kernel_rfl
theorem aNI:Tryz.prog.leadsTo Tryz.f174 = []:=by kernel_rfl
theorem aZh:inP Tryz.f174=false:=by kernel_rfl
theorem aNJ:Tryz.prog.leadsTo Tryz.f175 = [248,62]:=by kernel_rfl
theorem aZi:inP Tryz.f175=false:=by kernel_rfl
theorem aNK:Tryz.prog.leadsTo Tryz.f176 = []:=by kernel_rfl
theorem aZj:inP Tryz.f176=false:=by kernel_rfl
theorem aNL:Tryz.prog.leadsTo Tryz.f177 = [179]:=by kernel_rfl
theorem aZk:inP Tryz.f177=false:=by kernel_rfl
theorem aNM:Tryz.prog.leadsTo Tryz.f178 = []:=by kernel_rfl
theorem aZl:inP Tryz.f178=false:=by kernel_rfl
theorem aNN:Tryz.prog.leadsTo Tryz.f179 = [250,249]:=by kernel_rfl
theorem aZm:inP Tryz.f179=false:=by kernel_rfl
theorem aNO:Tryz.prog.leadsTo Tryz.f180 = [252]:=by kernel_rfl
theorem aZn:inP Tryz.f180=false:=by kernel_rfl
theorem aNP:Tryz.prog.leadsTo Tryz.f181 = [131]:=by kernel_rfl
theorem aZo:inP Tryz.f181=false:=by kernel_rfl
theorem aNQ:Tryz.prog.leadsTo Tryz.f182 = [23]:=by kernel_rfl
theorem aZp:inP Tryz.f182=false:=by kernel_rfl
theorem aNR:Tryz.prog.leadsTo Tryz.f183 = [29,29,29]:=by kernel_rfl
theorem aZq:inP Tryz.f183=false:=by kernel_rfl
theorem aNS:Tryz.prog.leadsTo Tryz.f184 = []:=by kernel_rfl
theorem aZr:inP Tryz.f184=false:=by kernel_rfl
theorem aNT:Tryz.prog.leadsTo Tryz.f185 = [253]:=by kernel_rfl
theorem aZs:inP Tryz.f185=false:=by kernel_rfl
theorem aNU:Tryz.prog.leadsTo Tryz.f186 = [256,255,254]:=by kernel_rfl
theorem aZt:inP Tryz.f186=false:=by kernel_rfl
theorem aNV:Tryz.prog.leadsTo Tryz.f187 = [257,258]:=by kernel_rfl
theorem aZu:inP Tryz.f187=false:=by kernel_rfl
theorem aNW:Tryz.prog.leadsTo Tryz.f188 = []:=by kernel_rfl
theorem aZv:inP Tryz.f188=false:=by kernel_rfl
theorem aNX:Tryz.prog.leadsTo Tryz.f189 = [259]:=by kernel_rfl
theorem aZw:inP Tryz.f189=false:=by kernel_rfl
theorem aNY:Tryz.prog.leadsTo Tryz.f190 = [191]:=by kernel_rfl
theorem aZx:inP Tryz.f190=false:=by kernel_rfl
theorem aNZ:Tryz.prog.leadsTo Tryz.f191 = [260]:=by kernel_rfl
theorem aZy:inP Tryz.f191=false:=by kernel_rfl
theorem aN0:Tryz.prog.leadsTo Tryz.f192 = []:=by kernel_rfl
theorem aZz:inP Tryz.f192=false:=by kernel_rfl
theorem aN1:Tryz.prog.leadsTo Tryz.f193 = []:=by kernel_rfl
theorem aZA:inP Tryz.f193=false:=by kernel_rfl
theorem aN2:Tryz.prog.leadsTo Tryz.f194 = []:=by kernel_rfl
theorem aZB:inP Tryz.f194=false:=by kernel_rfl
theorem aN3:Tryz.prog.leadsTo Tryz.f195 = [90,261,111,262,263]:=by kernel_rfl
theorem aZC:inP Tryz.f195=false:=by kernel_rfl
theorem aN4:Tryz.prog.leadsTo Tryz.f196 = [216,217,218,219]:=by kernel_rfl
theorem aZD:inP Tryz.f196=false:=by kernel_rfl
theorem aN5:Tryz.prog.leadsTo Tryz.f197 = [161,212]:=by kernel_rfl
theorem aZE:inP Tryz.f197=false:=by kernel_rfl
theorem aN6:Tryz.prog.leadsTo Tryz.f198 = [264]:=by kernel_rfl
theorem aZF:inP Tryz.f198=false:=by kernel_rfl
theorem aN7:Tryz.prog.leadsTo Tryz.f199 = [151]:=by kernel_rfl
theorem aZG:inP Tryz.f199=false:=by kernel_rfl
theorem aN8:Tryz.prog.leadsTo Tryz.f200 = [158,265,158,266,158,222,267]:=by kernel_rfl
theorem aZH:inP Tryz.f200=false:=by kernel_rfl
theorem aN9:Tryz.prog.leadsTo Tryz.f201 = [104,267,268,203]:=by kernel_rfl
theorem aZI:inP Tryz.f201=false:=by kernel_rfl
theorem aOa:Tryz.prog.leadsTo Tryz.f202 = [161,270,203]:=by kernel_rfl
theorem aZJ:inP Tryz.f202=false:=by kernel_rfl
theorem aOb:Tryz.prog.leadsTo Tryz.f203 = [104,274]:=by kernel_rfl
theorem aZK:inP Tryz.f203=false:=by kernel_rfl
theorem aOc:Tryz.prog.leadsTo Tryz.f204 = [205]:=by kernel_rfl
theorem aZL:inP Tryz.f204=false:=by kernel_rfl
theorem aOd:Tryz.prog.leadsTo Tryz.f205 = [275,276,277]:=by kernel_rfl
theorem aZM:inP Tryz.f205=false:=by kernel_rfl
theorem aOe:Tryz.prog.leadsTo Tryz.f206 = []:=by kernel_rfl
theorem aZN:inP Tryz.f206=false:=by kernel_rfl
theorem aOf:Tryz.prog.leadsTo Tryz.f207 = [278]:=by kernel_rfl
theorem aZO:inP Tryz.f207=false:=by kernel_rfl
theorem aOg:Tryz.prog.leadsTo Tryz.f208 = []:=by kernel_rfl
theorem aZP:inP Tryz.f208=false:=by kernel_rfl
theorem aOh:Tryz.prog.leadsTo Tryz.f209 = [279,279]:=by kernel_rfl
theorem aZQ:inP Tryz.f209=false:=by kernel_rfl
theorem aOi:Tryz.prog.leadsTo Tryz.f210 = [206]:=by kernel_rfl
theorem aZR:inP Tryz.f210=false:=by kernel_rfl
theorem aOj:Tryz.prog.leadsTo Tryz.f211 = []:=by kernel_rfl
theorem aZS:inP Tryz.f211=false:=by kernel_rfl
theorem aOk:Tryz.prog.leadsTo Tryz.f212 = [211,280,281,282]:=by kernel_rfl
theorem aZT:inP Tryz.f212=false:=by kernel_rfl
theorem aOl:Tryz.prog.leadsTo Tryz.f213 = [214]:=by kernel_rfl
theorem aZU:inP Tryz.f213=false:=by kernel_rfl
theorem aOm:Tryz.prog.leadsTo Tryz.f214 = [275,284,283,285,162,286,287,288]:=by kernel_rfl
theorem aZV:inP Tryz.f214=false:=by kernel_rfl
theorem aOn:Tryz.prog.leadsTo Tryz.f215 = [109,210]:=by kernel_rfl
theorem aZW:inP Tryz.f215=false:=by kernel_rfl
theorem aOo:Tryz.prog.leadsTo Tryz.f216 = [289,290,291]:=by kernel_rfl
theorem aZX:inP Tryz.f216=false:=by kernel_rfl
theorem aOp:Tryz.prog.leadsTo Tryz.f217 = [292,158,222,293,267]:=by kernel_rfl
theorem aZY:inP Tryz.f217=false:=by kernel_rfl
theorem aOq:Tryz.prog.leadsTo Tryz.f218 = [294,295,267]:=by kernel_rfl
theorem aZZ:inP Tryz.f218=false:=by kernel_rfl
theorem aOr:Tryz.prog.leadsTo Tryz.f219 = [296,203]:=by kernel_rfl
theorem aZ0:inP Tryz.f219=false:=by kernel_rfl
theorem aOs:Tryz.prog.leadsTo Tryz.f220 = [298]:=by kernel_rfl
theorem aZ1:inP Tryz.f220=false:=by kernel_rfl
theorem aOt:Tryz.prog.leadsTo Tryz.f221 = []:=by kernel_rfl
theorem aZ2:inP Tryz.f221=false:=by kernel_rfl
theorem aOu:Tryz.prog.leadsTo Tryz.f222 = [220]:=by kernel_rfl
theorem aZ3:inP Tryz.f222=false:=by kernel_rfl
theorem aOv:Tryz.prog.leadsTo Tryz.f223 = [224]:=by kernel_rfl
theorem aZ4:inP Tryz.f223=false:=by kernel_rfl
theorem aOw:Tryz.prog.leadsTo Tryz.f224 = [275,74,287,299,162,288]:=by kernel_rfl
theorem aZ5:inP Tryz.f224=false:=by kernel_rfl
theorem aOx:Tryz.prog.leadsTo Tryz.f225 = []:=by kernel_rfl
theorem aZ6:inP Tryz.f225=false:=by kernel_rfl
theorem aOy:Tryz.prog.leadsTo Tryz.f226 = [300]:=by kernel_rfl
theorem aZ7:inP Tryz.f226=false:=by kernel_rfl
theorem aOz:Tryz.prog.leadsTo Tryz.f227 = [301]:=by kernel_rfl
theorem aZ8:inP Tryz.f227=false:=by kernel_rfl
theorem aOA:Tryz.prog.leadsTo Tryz.f228 = [302,303]:=by kernel_rfl
theorem aZ9:inP Tryz.f228=false:=by kernel_rfl
theorem aOB:Tryz.prog.leadsTo Tryz.f229 = []:=by kernel_rfl
theorem bAa:inP Tryz.f229=false:=by kernel_rfl
theorem aOC:Tryz.prog.leadsTo Tryz.f230 = [304,305,306]:=by kernel_rfl
theorem bAb:inP Tryz.f230=false:=by kernel_rfl
theorem aOD:Tryz.prog.leadsTo Tryz.f231 = [307]:=by kernel_rfl
theorem bAc:inP Tryz.f231=false:=by kernel_rfl
theorem aOE:Tryz.prog.leadsTo Tryz.f232 = [308,310,309]:=by kernel_rfl
theorem bAd:inP Tryz.f232=false:=by kernel_rfl
theorem aOF:Tryz.prog.leadsTo Tryz.f233 = [311,312]:=by kernel_rfl
theorem bAe:inP Tryz.f233=false:=by kernel_rfl
theorem aOG:Tryz.prog.leadsTo Tryz.f234 = [236,168,313]:=by kernel_rfl
theorem bAf:inP Tryz.f234=false:=by kernel_rfl
theorem aOH:Tryz.prog.leadsTo Tryz.f235 = [314,315]:=by kernel_rfl
theorem bAg:inP Tryz.f235=false:=by kernel_rfl
theorem aOI:Tryz.prog.leadsTo Tryz.f236 = []:=by kernel_rfl
theorem bAh:inP Tryz.f236=false:=by kernel_rfl
theorem aOJ:Tryz.prog.leadsTo Tryz.f237 = [304,136,316,318,317]:=by kernel_rfl
theorem bAi:inP Tryz.f237=false:=by kernel_rfl
theorem aOK:Tryz.prog.leadsTo Tryz.f238 = [304,137,319]:=by kernel_rfl
theorem bAj:inP Tryz.f238=false:=by kernel_rfl
theorem aOL:Tryz.prog.leadsTo Tryz.f239 = []:=by kernel_rfl
theorem bAk:inP Tryz.f239=false:=by kernel_rfl
theorem aOM:Tryz.prog.leadsTo Tryz.f240 = [320,320,321,320,62,322,323,320,324,320]:=by kernel_rfl
theorem bAl:inP Tryz.f240=false:=by kernel_rfl
theorem aON:Tryz.prog.leadsTo Tryz.f241 = [325,62,326,327,328]:=by kernel_rfl
theorem bAm:inP Tryz.f241=false:=by kernel_rfl
theorem aOO:Tryz.prog.leadsTo Tryz.f242 = [329,330]:=by kernel_rfl
theorem bAn:inP Tryz.f242=false:=by kernel_rfl
theorem aOP:Tryz.prog.leadsTo Tryz.f243 = [62,169]:=by kernel_rfl
theorem bAo:inP Tryz.f243=false:=by kernel_rfl
theorem aOQ:Tryz.prog.leadsTo Tryz.f244 = [329,330]:=by kernel_rfl
theorem bAp:inP Tryz.f244=false:=by kernel_rfl
theorem aOR:Tryz.prog.leadsTo Tryz.f245 = [320,321,62,331,332,333,334,323,320,324,320]:=by kernel_rfl
theorem bAq:inP Tryz.f245=false:=by kernel_rfl
theorem aOS:Tryz.prog.leadsTo Tryz.f246 = [335,336]:=by kernel_rfl
theorem bAr:inP Tryz.f246=false:=by kernel_rfl
theorem aOT:Tryz.prog.leadsTo Tryz.f247 = [236]:=by kernel_rfl
theorem bAs:inP Tryz.f247=false:=by kernel_rfl
theorem aOU:Tryz.prog.leadsTo Tryz.f248 = [107]:=by kernel_rfl
theorem bAt:inP Tryz.f248=false:=by kernel_rfl
theorem aOV:Tryz.prog.leadsTo Tryz.f249 = [337]:=by kernel_rfl
theorem bAu:inP Tryz.f249=false:=by kernel_rfl
theorem aOW:Tryz.prog.leadsTo Tryz.f250 = [251]:=by kernel_rfl
theorem bAv:inP Tryz.f250=false:=by kernel_rfl
theorem aOX:Tryz.prog.leadsTo Tryz.f251 = [338]:=by kernel_rfl
theorem bAw:inP Tryz.f251=false:=by kernel_rfl
theorem aOY:Tryz.prog.leadsTo Tryz.f252 = []:=by kernel_rfl
theorem bAx:inP Tryz.f252=false:=by kernel_rfl
theorem aOZ:Tryz.prog.leadsTo Tryz.f253 = []:=by kernel_rfl
theorem bAy:inP Tryz.f253=false:=by kernel_rfl
theorem aO0:Tryz.prog.leadsTo Tryz.f254 = [339]:=by kernel_rfl
theorem bAz:inP Tryz.f254=false:=by kernel_rfl
theorem aO1:Tryz.prog.leadsTo Tryz.f255 = []:=by kernel_rfl
theorem bAA:inP Tryz.f255=false:=by kernel_rfl
theorem aO2:Tryz.prog.leadsTo Tryz.f256 = [340]:=by kernel_rfl
theorem bAB:inP Tryz.f256=false:=by kernel_rfl
theorem aO3:Tryz.prog.leadsTo Tryz.f257 = [341,342,344,343]:=by kernel_rfl
theorem bAC:inP Tryz.f257=false:=by kernel_rfl
theorem aO4:Tryz.prog.leadsTo Tryz.f258 = [341,342]:=by kernel_rfl
theorem bAD:inP Tryz.f258=false:=by kernel_rfl
theorem aO5:Tryz.prog.leadsTo Tryz.f259 = []:=by kernel_rfl
theorem bAE:inP Tryz.f259=false:=by kernel_rfl
theorem aO6:Tryz.prog.leadsTo Tryz.f260 = []:=by kernel_rfl
theorem bAF:inP Tryz.f260=false:=by kernel_rfl
theorem aO7:Tryz.prog.leadsTo Tryz.f261 = [134,345,229,227,227,346,226,301,347]:=by kernel_rfl
theorem bAG:inP Tryz.f261=false:=by kernel_rfl
theorem aO8:Tryz.prog.leadsTo Tryz.f262 = [348,301,349,350]:=by kernel_rfl
theorem bAH:inP Tryz.f262=false:=by kernel_rfl
theorem aO9:Tryz.prog.leadsTo Tryz.f263 = [21,22,23,351,23,352,353,354,355,356,27,357]:=by kernel_rfl
theorem bAI:inP Tryz.f263=false:=by kernel_rfl
theorem aPa:Tryz.prog.leadsTo Tryz.f264 = [211]:=by kernel_rfl
theorem bAJ:inP Tryz.f264=false:=by kernel_rfl
theorem aPb:Tryz.prog.leadsTo Tryz.f265 = [298,220,85,358]:=by kernel_rfl
theorem bAK:inP Tryz.f265=false:=by kernel_rfl
theorem aPc:Tryz.prog.leadsTo Tryz.f266 = [220,358]:=by kernel_rfl
theorem bAL:inP Tryz.f266=false:=by kernel_rfl
theorem aPd:Tryz.prog.leadsTo Tryz.f267 = []:=by kernel_rfl
theorem bAM:inP Tryz.f267=false:=by kernel_rfl
theorem aPe:Tryz.prog.leadsTo Tryz.f268 = [269]:=by kernel_rfl
theorem bAN:inP Tryz.f268=false:=by kernel_rfl
theorem aPf:Tryz.prog.leadsTo Tryz.f269 = [275,359,283,288]:=by kernel_rfl
theorem bAO:inP Tryz.f269=false:=by kernel_rfl
theorem aPg:Tryz.prog.leadsTo Tryz.f270 = [105,271,272,273]:=by kernel_rfl
theorem bAP:inP Tryz.f270=false:=by kernel_rfl
theorem aPh:Tryz.prog.leadsTo Tryz.f271 = [186,340,360,256,255]:=by kernel_rfl
theorem bAQ:inP Tryz.f271=false:=by kernel_rfl
theorem aPi:Tryz.prog.leadsTo Tryz.f272 = [186,340,360,256,255]:=by kernel_rfl
theorem bAR:inP Tryz.f272=false:=by kernel_rfl
theorem aPj:Tryz.prog.leadsTo Tryz.f273 = [275,361,277]:=by kernel_rfl
theorem bAS:inP Tryz.f273=false:=by kernel_rfl
theorem aPk:Tryz.prog.leadsTo Tryz.f274 = [362,267,267,363,267,364,267,105]:=by kernel_rfl
theorem bAT:inP Tryz.f274=false:=by kernel_rfl
theorem aPl:Tryz.prog.leadsTo Tryz.f275 = [162]:=by kernel_rfl
theorem bAU:inP Tryz.f275=false:=by kernel_rfl
theorem aPm:Tryz.prog.leadsTo Tryz.f276 = [365,360,366,228,367,368,369]:=by kernel_rfl
theorem bAV:inP Tryz.f276=false:=by kernel_rfl
theorem aPn:Tryz.prog.leadsTo Tryz.f277 = [283,288,275]:=by kernel_rfl
theorem bAW:inP Tryz.f277=false:=by kernel_rfl
theorem aPo:Tryz.prog.leadsTo Tryz.f278 = []:=by kernel_rfl
theorem bAX:inP Tryz.f278=false:=by kernel_rfl
theorem aPp:Tryz.prog.leadsTo Tryz.f279 = [206]:=by kernel_rfl
theorem bAY:inP Tryz.f279=false:=by kernel_rfl
theorem aPq:Tryz.prog.leadsTo Tryz.f280 = []:=by kernel_rfl
theorem bAZ:inP Tryz.f280=false:=by kernel_rfl
theorem aPr:Tryz.prog.leadsTo Tryz.f281 = [211,371,370]:=by kernel_rfl
theorem bA0:inP Tryz.f281=false:=by kernel_rfl
theorem aPs:Tryz.prog.leadsTo Tryz.f282 = [71]:=by kernel_rfl
theorem bA1:inP Tryz.f282=false:=by kernel_rfl
theorem aPt:Tryz.prog.leadsTo Tryz.f283 = []:=by kernel_rfl
theorem bA2:inP Tryz.f283=false:=by kernel_rfl
theorem aPu:Tryz.prog.leadsTo Tryz.f284 = [348,372,373,374,375,376,377]:=by kernel_rfl
theorem bA3:inP Tryz.f284=false:=by kernel_rfl
theorem aPv:Tryz.prog.leadsTo Tryz.f285 = [262,162,263,379,378,299,380,381,61,62,248,381,383,382]:=by kernel_rfl
theorem bA4:inP Tryz.f285=false:=by kernel_rfl
theorem aPw:Tryz.prog.leadsTo Tryz.f286 = [384,62,385]:=by kernel_rfl
theorem bA5:inP Tryz.f286=false:=by kernel_rfl
theorem aPx:Tryz.prog.leadsTo Tryz.f287 = [386,283]:=by kernel_rfl
theorem bA6:inP Tryz.f287=false:=by kernel_rfl
theorem aPy:Tryz.prog.leadsTo Tryz.f288 = [285,275]:=by kernel_rfl
theorem bA7:inP Tryz.f288=false:=by kernel_rfl
theorem aPz:Tryz.prog.leadsTo Tryz.f289 = [387,388]:=by kernel_rfl
theorem bA8:inP Tryz.f289=false:=by kernel_rfl
theorem aPA:Tryz.prog.leadsTo Tryz.f290 = [289]:=by kernel_rfl
theorem bA9:inP Tryz.f290=false:=by kernel_rfl
theorem aPB:Tryz.prog.leadsTo Tryz.f291 = [389,203]:=by kernel_rfl
theorem bBa:inP Tryz.f291=false:=by kernel_rfl
theorem aPC:Tryz.prog.leadsTo Tryz.f292 = [392,391]:=by kernel_rfl
theorem bBb:inP Tryz.f292=false:=by kernel_rfl
theorem aPD:Tryz.prog.leadsTo Tryz.f293 = [220,221,110]:=by kernel_rfl
theorem bBc:inP Tryz.f293=false:=by kernel_rfl
theorem aPE:Tryz.prog.leadsTo Tryz.f294 = [394,393]:=by kernel_rfl
theorem bBd:inP Tryz.f294=false:=by kernel_rfl
theorem aPF:Tryz.prog.leadsTo Tryz.f295 = [395,396]:=by kernel_rfl
theorem bBe:inP Tryz.f295=false:=by kernel_rfl
theorem aPG:Tryz.prog.leadsTo Tryz.f296 = [297]:=by kernel_rfl
theorem bBf:inP Tryz.f296=false:=by kernel_rfl
theorem aPH:Tryz.prog.leadsTo Tryz.f297 = [275,85,287,288]:=by kernel_rfl
theorem bBg:inP Tryz.f297=false:=by kernel_rfl
theorem aPI:Tryz.prog.leadsTo Tryz.f298 = []:=by kernel_rfl
theorem bBh:inP Tryz.f298=false:=by kernel_rfl
theorem aPJ:Tryz.prog.leadsTo Tryz.f299 = []:=by kernel_rfl
theorem bBi:inP Tryz.f299=false:=by kernel_rfl
theorem aPK:Tryz.prog.leadsTo Tryz.f300 = [302,397]:=by kernel_rfl
theorem bBj:inP Tryz.f300=false:=by kernel_rfl
theorem aPL:Tryz.prog.leadsTo Tryz.f301 = [302,398]:=by kernel_rfl
theorem bBk:inP Tryz.f301=false:=by kernel_rfl
theorem aPM:Tryz.prog.leadsTo Tryz.f302 = []:=by kernel_rfl
theorem bBl:inP Tryz.f302=false:=by kernel_rfl
theorem aPN:Tryz.prog.leadsTo Tryz.f303 = [399]:=by kernel_rfl
theorem bBm:inP Tryz.f303=false:=by kernel_rfl
theorem aPO:Tryz.prog.leadsTo Tryz.f304 = []:=by kernel_rfl
theorem bBn:inP Tryz.f304=false:=by kernel_rfl
theorem aPP:Tryz.prog.leadsTo Tryz.f305 = [307]:=by kernel_rfl
theorem bBo:inP Tryz.f305=false:=by kernel_rfl
theorem aPQ:Tryz.prog.leadsTo Tryz.f306 = [307]:=by kernel_rfl
theorem bBp:inP Tryz.f306=false:=by kernel_rfl
theorem aPR:Tryz.prog.leadsTo Tryz.f307 = []:=by kernel_rfl
theorem bBq:inP Tryz.f307=true:=by kernel_rfl
theorem aPS:Tryz.prog.leadsTo Tryz.f308 = []:=by kernel_rfl
theorem bBr:inP Tryz.f308=false:=by kernel_rfl
theorem aPT:Tryz.prog.leadsTo Tryz.f309 = [400,166,401]:=by kernel_rfl
theorem bBs:inP Tryz.f309=false:=by kernel_rfl
theorem aPU:Tryz.prog.leadsTo Tryz.f310 = [308,108,402]:=by kernel_rfl
theorem bBt:inP Tryz.f310=false:=by kernel_rfl
theorem aPV:Tryz.prog.leadsTo Tryz.f311 = []:=by kernel_rfl
theorem bBu:inP Tryz.f311=false:=by kernel_rfl
theorem aPW:Tryz.prog.leadsTo Tryz.f312 = []:=by kernel_rfl
theorem bBv:inP Tryz.f312=false:=by kernel_rfl
theorem aPX:Tryz.prog.leadsTo Tryz.f313 = []:=by kernel_rfl
theorem bBw:inP Tryz.f313=false:=by kernel_rfl
theorem aPY:Tryz.prog.leadsTo Tryz.f314 = [403]:=by kernel_rfl
theorem bBx:inP Tryz.f314=false:=by kernel_rfl
theorem aPZ:Tryz.prog.leadsTo Tryz.f315 = []:=by kernel_rfl
theorem bBy:inP Tryz.f315=false:=by kernel_rfl
theorem aP0:Tryz.prog.leadsTo Tryz.f316 = [342,342]:=by kernel_rfl
theorem bBz:inP Tryz.f316=false:=by kernel_rfl
theorem aP1:Tryz.prog.leadsTo Tryz.f317 = []:=by kernel_rfl
theorem bBA:inP Tryz.f317=false:=by kernel_rfl
theorem aP2:Tryz.prog.leadsTo Tryz.f318 = [187]:=by kernel_rfl
theorem bBB:inP Tryz.f318=false:=by kernel_rfl
theorem aP3:Tryz.prog.leadsTo Tryz.f319 = [404]:=by kernel_rfl
theorem bBC:inP Tryz.f319=false:=by kernel_rfl
theorem aP4:Tryz.prog.leadsTo Tryz.f320 = [62,169]:=by kernel_rfl
theorem bBD:inP Tryz.f320=false:=by kernel_rfl
theorem aP5:Tryz.prog.leadsTo Tryz.f321 = [405,406]:=by kernel_rfl
theorem bBE:inP Tryz.f321=false:=by kernel_rfl
theorem aP6:Tryz.prog.leadsTo Tryz.f322 = [407,408]:=by kernel_rfl
theorem bBF:inP Tryz.f322=false:=by kernel_rfl
theorem aP7:Tryz.prog.leadsTo Tryz.f323 = [409]:=by kernel_rfl
theorem bBG:inP Tryz.f323=false:=by kernel_rfl
theorem aP8:Tryz.prog.leadsTo Tryz.f324 = [410,411]:=by kernel_rfl
theorem bBH:inP Tryz.f324=false:=by kernel_rfl
theorem aP9:Tryz.prog.leadsTo Tryz.f325 = [62,169]:=by kernel_rfl
theorem bBI:inP Tryz.f325=false:=by kernel_rfl
theorem aQa:Tryz.prog.leadsTo Tryz.f326 = [308,412]:=by kernel_rfl
theorem bBJ:inP Tryz.f326=false:=by kernel_rfl
theorem aQb:Tryz.prog.leadsTo Tryz.f327 = [62,321,413,324,414]:=by kernel_rfl
theorem bBK:inP Tryz.f327=false:=by kernel_rfl
theorem aQc:Tryz.prog.leadsTo Tryz.f328 = [311,415,416,417]:=by kernel_rfl
theorem bBL:inP Tryz.f328=false:=by kernel_rfl
theorem aQd:Tryz.prog.leadsTo Tryz.f329 = [311,419,418]:=by kernel_rfl
theorem bBM:inP Tryz.f329=false:=by kernel_rfl
theorem aQe:Tryz.prog.leadsTo Tryz.f330 = []:=by kernel_rfl
theorem bBN:inP Tryz.f330=false:=by kernel_rfl
theorem aQf:Tryz.prog.leadsTo Tryz.f331 = [421,420,408]:=by kernel_rfl
theorem bBO:inP Tryz.f331=false:=by kernel_rfl
theorem aQg:Tryz.prog.leadsTo Tryz.f332 = [421,422,408]:=by kernel_rfl
theorem bBP:inP Tryz.f332=false:=by kernel_rfl
theorem aQh:Tryz.prog.leadsTo Tryz.f333 = [408]:=by kernel_rfl
theorem bBQ:inP Tryz.f333=false:=by kernel_rfl
theorem aQi:Tryz.prog.leadsTo Tryz.f334 = [407,408]:=by kernel_rfl
theorem bBR:inP Tryz.f334=false:=by kernel_rfl
theorem aQj:Tryz.prog.leadsTo Tryz.f335 = []:=by kernel_rfl
theorem bBS:inP Tryz.f335=false:=by kernel_rfl
theorem aQk:Tryz.prog.leadsTo Tryz.f336 = [423,423,423,423]:=by kernel_rfl
theorem bBT:inP Tryz.f336=false:=by kernel_rfl
theorem aQl:Tryz.prog.leadsTo Tryz.f337 = []:=by kernel_rfl
theorem bBU:inP Tryz.f337=false:=by kernel_rfl
theorem aQm:Tryz.prog.leadsTo Tryz.f338 = []:=by kernel_rfl
theorem bBV:inP Tryz.f338=false:=by kernel_rfl
theorem aQn:Tryz.prog.leadsTo Tryz.f339 = []:=by kernel_rfl
theorem bBW:inP Tryz.f339=false:=by kernel_rfl
theorem aQo:Tryz.prog.leadsTo Tryz.f340 = []:=by kernel_rfl
theorem bBX:inP Tryz.f340=false:=by kernel_rfl
theorem aQp:Tryz.prog.leadsTo Tryz.f341 = [424]:=by kernel_rfl
theorem bBY:inP Tryz.f341=false:=by kernel_rfl
theorem aQq:Tryz.prog.leadsTo Tryz.f342 = []:=by kernel_rfl
theorem bBZ:inP Tryz.f342=false:=by kernel_rfl
theorem aQr:Tryz.prog.leadsTo Tryz.f343 = []:=by kernel_rfl
theorem bB0:inP Tryz.f343=false:=by kernel_rfl
theorem aQs:Tryz.prog.leadsTo Tryz.f344 = []:=by kernel_rfl
theorem bB1:inP Tryz.f344=false:=by kernel_rfl
theorem aQt:Tryz.prog.leadsTo Tryz.f345 = [425,426,398,427,428,429]:=by kernel_rfl
theorem bB2:inP Tryz.f345=false:=by kernel_rfl
theorem aQu:Tryz.prog.leadsTo Tryz.f346 = [228,430]:=by kernel_rfl
theorem bB3:inP Tryz.f346=false:=by kernel_rfl
theorem aQv:Tryz.prog.leadsTo Tryz.f347 = [228,431]:=by kernel_rfl
theorem bB4:inP Tryz.f347=false:=by kernel_rfl
theorem aQw:Tryz.prog.leadsTo Tryz.f348 = [225]:=by kernel_rfl
theorem bB5:inP Tryz.f348=false:=by kernel_rfl
theorem aQx:Tryz.prog.leadsTo Tryz.f349 = [302,432]:=by kernel_rfl
theorem bB6:inP Tryz.f349=false:=by kernel_rfl
theorem aQy:Tryz.prog.leadsTo Tryz.f350 = [434,433]:=by kernel_rfl
theorem bB7:inP Tryz.f350=false:=by kernel_rfl
theorem aQz:Tryz.prog.leadsTo Tryz.f351 = [165,435,23,23,121,237,23,23,122,238,25,75]:=by kernel_rfl
theorem bB8:inP Tryz.f351=false:=by kernel_rfl
theorem aQA:Tryz.prog.leadsTo Tryz.f352 = [25]:=by kernel_rfl
theorem bB9:inP Tryz.f352=false:=by kernel_rfl
theorem aQB:Tryz.prog.leadsTo Tryz.f353 = [436,23,23,25,336,75]:=by kernel_rfl
theorem bCa:inP Tryz.f353=false:=by kernel_rfl
theorem aQC:Tryz.prog.leadsTo Tryz.f354 = [24,23,23,23,23,23,25,400,75]:=by kernel_rfl
theorem bCb:inP Tryz.f354=false:=by kernel_rfl
theorem aQD:Tryz.prog.leadsTo Tryz.f355 = [437,23,23,23,23,25,438,75]:=by kernel_rfl
theorem bCc:inP Tryz.f355=false:=by kernel_rfl
theorem aQE:Tryz.prog.leadsTo Tryz.f356 = [168,23,23,23,439,172,25,75]:=by kernel_rfl
theorem bCd:inP Tryz.f356=false:=by kernel_rfl
theorem aQF:Tryz.prog.leadsTo Tryz.f357 = [309,440,237,172,230,234,441,323]:=by kernel_rfl
theorem bCe:inP Tryz.f357=false:=by kernel_rfl
theorem aQG:Tryz.prog.leadsTo Tryz.f358 = [85,74]:=by kernel_rfl
theorem bCf:inP Tryz.f358=false:=by kernel_rfl
theorem aQH:Tryz.prog.leadsTo Tryz.f359 = [365,442,443,444,445,369]:=by kernel_rfl
theorem bCg:inP Tryz.f359=false:=by kernel_rfl
theorem aQI:Tryz.prog.leadsTo Tryz.f360 = [446]:=by kernel_rfl
theorem bCh:inP Tryz.f360=false:=by kernel_rfl
theorem aQJ:Tryz.prog.leadsTo Tryz.f361 = [365,447,254,442,448,229,450,228,449,451,452]:=by kernel_rfl
theorem bCi:inP Tryz.f361=false:=by kernel_rfl
theorem aQK:Tryz.prog.leadsTo Tryz.f362 = [206,453,209]:=by kernel_rfl
theorem bCj:inP Tryz.f362=false:=by kernel_rfl
theorem aQL:Tryz.prog.leadsTo Tryz.f363 = []:=by kernel_rfl
theorem bCk:inP Tryz.f363=false:=by kernel_rfl
theorem aQM:Tryz.prog.leadsTo Tryz.f364 = []:=by kernel_rfl
theorem bCl:inP Tryz.f364=false:=by kernel_rfl
theorem aQN:Tryz.prog.leadsTo Tryz.f365 = [348]:=by kernel_rfl
theorem bCm:inP Tryz.f365=false:=by kernel_rfl
theorem aQO:Tryz.prog.leadsTo Tryz.f366 = [454]:=by kernel_rfl
theorem bCn:inP Tryz.f366=false:=by kernel_rfl
theorem aQP:Tryz.prog.leadsTo Tryz.f367 = [226]:=by kernel_rfl
theorem bCo:inP Tryz.f367=false:=by kernel_rfl
theorem aQQ:Tryz.prog.leadsTo Tryz.f368 = [366,227,301,455,367,430,455,349,367]:=by kernel_rfl
theorem bCp:inP Tryz.f368=false:=by kernel_rfl
theorem aQR:Tryz.prog.leadsTo Tryz.f369 = [377,348]:=by kernel_rfl
theorem bCq:inP Tryz.f369=false:=by kernel_rfl
theorem aQS:Tryz.prog.leadsTo Tryz.f370 = [456,457]:=by kernel_rfl
theorem bCr:inP Tryz.f370=false:=by kernel_rfl
theorem aQT:Tryz.prog.leadsTo Tryz.f371 = [458]:=by kernel_rfl
theorem bCs:inP Tryz.f371=false:=by kernel_rfl
theorem aQU:Tryz.prog.leadsTo Tryz.f372 = [360]:=by kernel_rfl
theorem bCt:inP Tryz.f372=false:=by kernel_rfl
theorem aQV:Tryz.prog.leadsTo Tryz.f373 = [226,459,460,450,226,228,346,367]:=by kernel_rfl
theorem bCu:inP Tryz.f373=false:=by kernel_rfl
theorem aQW:Tryz.prog.leadsTo Tryz.f374 = [462,461]:=by kernel_rfl
theorem bCv:inP Tryz.f374=false:=by kernel_rfl
theorem aQX:Tryz.prog.leadsTo Tryz.f375 = [463]:=by kernel_rfl
theorem bCw:inP Tryz.f375=false:=by kernel_rfl
theorem aQY:Tryz.prog.leadsTo Tryz.f376 = [464,444]:=by kernel_rfl
theorem bCx:inP Tryz.f376=false:=by kernel_rfl
theorem aQZ:Tryz.prog.leadsTo Tryz.f377 = []:=by kernel_rfl
theorem bCy:inP Tryz.f377=false:=by kernel_rfl
theorem aQ0:Tryz.prog.leadsTo Tryz.f378 = []:=by kernel_rfl
theorem bCz:inP Tryz.f378=false:=by kernel_rfl
theorem aQ1:Tryz.prog.leadsTo Tryz.f379 = []:=by kernel_rfl
theorem bCA:inP Tryz.f379=false:=by kernel_rfl
theorem aQ2:Tryz.prog.leadsTo Tryz.f380 = [112,465,378,299,299]:=by kernel_rfl
theorem bCB:inP Tryz.f380=false:=by kernel_rfl
theorem aQ3:Tryz.prog.leadsTo Tryz.f381 = []:=by kernel_rfl
theorem bCC:inP Tryz.f381=false:=by kernel_rfl
theorem aQ4:Tryz.prog.leadsTo Tryz.f382 = [348,227,430,431,467,466,347]:=by kernel_rfl
theorem bCD:inP Tryz.f382=false:=by kernel_rfl
theorem aQ5:Tryz.prog.leadsTo Tryz.f383 = [468,38]:=by kernel_rfl
theorem bCE:inP Tryz.f383=false:=by kernel_rfl
theorem aQ6:Tryz.prog.leadsTo Tryz.f384 = [85]:=by kernel_rfl
theorem bCF:inP Tryz.f384=false:=by kernel_rfl
theorem aQ7:Tryz.prog.leadsTo Tryz.f385 = [107,62,469]:=by kernel_rfl
theorem bCG:inP Tryz.f385=false:=by kernel_rfl
theorem aQ8:Tryz.prog.leadsTo Tryz.f386 = [365,448,452]:=by kernel_rfl
theorem bCH:inP Tryz.f386=false:=by kernel_rfl
theorem aQ9:Tryz.prog.leadsTo Tryz.f387 = [210]:=by kernel_rfl
theorem bCI:inP Tryz.f387=false:=by kernel_rfl
theorem aRa:Tryz.prog.leadsTo Tryz.f388 = [21,22,470,23,471,27,472]:=by kernel_rfl
theorem bCJ:inP Tryz.f388=false:=by kernel_rfl
theorem aRb:Tryz.prog.leadsTo Tryz.f389 = [390]:=by kernel_rfl
theorem bCK:inP Tryz.f389=false:=by kernel_rfl
theorem aRc:Tryz.prog.leadsTo Tryz.f390 = [275,263,473,283,288]:=by kernel_rfl
theorem bCL:inP Tryz.f390=false:=by kernel_rfl
theorem aRd:Tryz.prog.leadsTo Tryz.f391 = []:=by kernel_rfl
theorem bCM:inP Tryz.f391=false:=by kernel_rfl
theorem aRe:Tryz.prog.leadsTo Tryz.f392 = []:=by kernel_rfl
theorem bCN:inP Tryz.f392=false:=by kernel_rfl
theorem aRf:Tryz.prog.leadsTo Tryz.f393 = []:=by kernel_rfl
theorem bCO:inP Tryz.f393=false:=by kernel_rfl
theorem aRg:Tryz.prog.leadsTo Tryz.f394 = []:=by kernel_rfl
theorem bCP:inP Tryz.f394=false:=by kernel_rfl
theorem aRh:Tryz.prog.leadsTo Tryz.f395 = []:=by kernel_rfl
theorem bCQ:inP Tryz.f395=false:=by kernel_rfl
theorem aRi:Tryz.prog.leadsTo Tryz.f396 = [395]:=by kernel_rfl
theorem bCR:inP Tryz.f396=false:=by kernel_rfl
theorem aRj:Tryz.prog.leadsTo Tryz.f397 = [474]:=by kernel_rfl
theorem bCS:inP Tryz.f397=false:=by kernel_rfl
theorem aRk:Tryz.prog.leadsTo Tryz.f398 = [475,476]:=by kernel_rfl
theorem bCT:inP Tryz.f398=false:=by kernel_rfl
theorem aRl:Tryz.prog.leadsTo Tryz.f399 = []:=by kernel_rfl
theorem bCU:inP Tryz.f399=false:=by kernel_rfl
theorem aRm:Tryz.prog.leadsTo Tryz.f400 = [477,478,477,479]:=by kernel_rfl
theorem bCV:inP Tryz.f400=false:=by kernel_rfl
theorem aRn:Tryz.prog.leadsTo Tryz.f401 = [164,314,480,481,482]:=by kernel_rfl
theorem bCW:inP Tryz.f401=false:=by kernel_rfl
theorem aRo:Tryz.prog.leadsTo Tryz.f402 = [164,483,484,485]:=by kernel_rfl
theorem bCX:inP Tryz.f402=false:=by kernel_rfl
theorem aRp:Tryz.prog.leadsTo Tryz.f403 = [486]:=by kernel_rfl
theorem bCY:inP Tryz.f403=false:=by kernel_rfl
theorem aRq:Tryz.prog.leadsTo Tryz.f404 = []:=by kernel_rfl
theorem bCZ:inP Tryz.f404=false:=by kernel_rfl
theorem aRr:Tryz.prog.leadsTo Tryz.f405 = [304,319]:=by kernel_rfl
theorem bC0:inP Tryz.f405=false:=by kernel_rfl
theorem aRs:Tryz.prog.leadsTo Tryz.f406 = [405,487]:=by kernel_rfl
theorem bC1:inP Tryz.f406=false:=by kernel_rfl
theorem aRt:Tryz.prog.leadsTo Tryz.f407 = [137,488]:=by kernel_rfl
theorem bC2:inP Tryz.f407=false:=by kernel_rfl
theorem aRu:Tryz.prog.leadsTo Tryz.f408 = []:=by kernel_rfl
theorem bC3:inP Tryz.f408=false:=by kernel_rfl
theorem aRv:Tryz.prog.leadsTo Tryz.f409 = [489,321,490]:=by kernel_rfl
theorem bC4:inP Tryz.f409=false:=by kernel_rfl
theorem aRw:Tryz.prog.leadsTo Tryz.f410 = [308,491]:=by kernel_rfl
theorem bC5:inP Tryz.f410=false:=by kernel_rfl
theorem aRx:Tryz.prog.leadsTo Tryz.f411 = [308,477,492,481,491,401]:=by kernel_rfl
theorem bC6:inP Tryz.f411=false:=by kernel_rfl
theorem aRy:Tryz.prog.leadsTo Tryz.f412 = [164,314,493,494,485]:=by kernel_rfl
theorem bC7:inP Tryz.f412=false:=by kernel_rfl
theorem aRz:Tryz.prog.leadsTo Tryz.f413 = [137,421,495,408]:=by kernel_rfl
theorem bC8:inP Tryz.f413=false:=by kernel_rfl
theorem aRA:Tryz.prog.leadsTo Tryz.f414 = [311,496,497,418,498]:=by kernel_rfl
theorem bC9:inP Tryz.f414=false:=by kernel_rfl
theorem aRB:Tryz.prog.leadsTo Tryz.f415 = [330]:=by kernel_rfl
theorem bDa:inP Tryz.f415=false:=by kernel_rfl
theorem aRC:Tryz.prog.leadsTo Tryz.f416 = []:=by kernel_rfl
theorem bDb:inP Tryz.f416=false:=by kernel_rfl
theorem aRD:Tryz.prog.leadsTo Tryz.f417 = []:=by kernel_rfl
theorem bDc:inP Tryz.f417=false:=by kernel_rfl
theorem aRE:Tryz.prog.leadsTo Tryz.f418 = []:=by kernel_rfl
theorem bDd:inP Tryz.f418=false:=by kernel_rfl
theorem aRF:Tryz.prog.leadsTo Tryz.f419 = []:=by kernel_rfl
theorem bDe:inP Tryz.f419=false:=by kernel_rfl
theorem aRG:Tryz.prog.leadsTo Tryz.f420 = [499,500]:=by kernel_rfl
theorem bDf:inP Tryz.f420=false:=by kernel_rfl
theorem aRH:Tryz.prog.leadsTo Tryz.f421 = []:=by kernel_rfl
theorem bDg:inP Tryz.f421=false:=by kernel_rfl
theorem aRI:Tryz.prog.leadsTo Tryz.f422 = [499,488]:=by kernel_rfl
theorem bDh:inP Tryz.f422=false:=by kernel_rfl
theorem aRJ:Tryz.prog.leadsTo Tryz.f423 = []:=by kernel_rfl
theorem bDi:inP Tryz.f423=false:=by kernel_rfl
theorem aRK:Tryz.prog.leadsTo Tryz.f424 = []:=by kernel_rfl
theorem bDj:inP Tryz.f424=false:=by kernel_rfl
theorem aRL:Tryz.prog.leadsTo Tryz.f425 = [501,502]:=by kernel_rfl
theorem bDk:inP Tryz.f425=false:=by kernel_rfl
theorem aRM:Tryz.prog.leadsTo Tryz.f426 = [503,504,505]:=by kernel_rfl
theorem bDl:inP Tryz.f426=false:=by kernel_rfl
theorem aRN:Tryz.prog.leadsTo Tryz.f427 = [504,506,507,303,429]:=by kernel_rfl
theorem bDm:inP Tryz.f427=false:=by kernel_rfl
theorem aRO:Tryz.prog.leadsTo Tryz.f428 = [399,303,508]:=by kernel_rfl
theorem bDn:inP Tryz.f428=false:=by kernel_rfl
theorem aRP:Tryz.prog.leadsTo Tryz.f429 = [399,509]:=by kernel_rfl
theorem bDo:inP Tryz.f429=false:=by kernel_rfl
theorem aRQ:Tryz.prog.leadsTo Tryz.f430 = [510,301,511]:=by kernel_rfl
theorem bDp:inP Tryz.f430=false:=by kernel_rfl
theorem aRR:Tryz.prog.leadsTo Tryz.f431 = [227,511,512,301]:=by kernel_rfl
theorem bDq:inP Tryz.f431=false:=by kernel_rfl
theorem aRS:Tryz.prog.leadsTo Tryz.f432 = [399,303,513,513,508]:=by kernel_rfl
theorem bDr:inP Tryz.f432=false:=by kernel_rfl
theorem aRT:Tryz.prog.leadsTo Tryz.f433 = [514]:=by kernel_rfl
theorem bDs:inP Tryz.f433=false:=by kernel_rfl
theorem aRU:Tryz.prog.leadsTo Tryz.f434 = []:=by kernel_rfl
theorem bDt:inP Tryz.f434=false:=by kernel_rfl
theorem aRV:Tryz.prog.leadsTo Tryz.f435 = []:=by kernel_rfl
theorem bDu:inP Tryz.f435=false:=by kernel_rfl
theorem aRW:Tryz.prog.leadsTo Tryz.f436 = [23]:=by kernel_rfl
theorem bDv:inP Tryz.f436=false:=by kernel_rfl
theorem aRX:Tryz.prog.leadsTo Tryz.f437 = [23]:=by kernel_rfl
theorem bDw:inP Tryz.f437=false:=by kernel_rfl
theorem aRY:Tryz.prog.leadsTo Tryz.f438 = [497,515]:=by kernel_rfl
theorem bDx:inP Tryz.f438=false:=by kernel_rfl
theorem aRZ:Tryz.prog.leadsTo Tryz.f439 = [23,24,516,353,25,246,75]:=by kernel_rfl
theorem bDy:inP Tryz.f439=false:=by kernel_rfl
theorem aR0:Tryz.prog.leadsTo Tryz.f440 = [438,312]:=by kernel_rfl
theorem bDz:inP Tryz.f440=false:=by kernel_rfl
theorem aR1:Tryz.prog.leadsTo Tryz.f441 = [321,336,62,517,492,62]:=by kernel_rfl
theorem bDA:inP Tryz.f441=false:=by kernel_rfl
theorem aR2:Tryz.prog.leadsTo Tryz.f442 = [430,226]:=by kernel_rfl
theorem bDB:inP Tryz.f442=false:=by kernel_rfl
theorem aR3:Tryz.prog.leadsTo Tryz.f443 = [514,464]:=by kernel_rfl
theorem bDC:inP Tryz.f443=false:=by kernel_rfl
theorem aR4:Tryz.prog.leadsTo Tryz.f444 = [518,368]:=by kernel_rfl
theorem bDD:inP Tryz.f444=false:=by kernel_rfl
theorem aR5:Tryz.prog.leadsTo Tryz.f445 = [455,520,519]:=by kernel_rfl
theorem bDE:inP Tryz.f445=false:=by kernel_rfl
theorem aR6:Tryz.prog.leadsTo Tryz.f446 = [521]:=by kernel_rfl
theorem bDF:inP Tryz.f446=false:=by kernel_rfl
theorem aR7:Tryz.prog.leadsTo Tryz.f447 = [256,256,186,186]:=by kernel_rfl
theorem bDG:inP Tryz.f447=false:=by kernel_rfl
theorem aR8:Tryz.prog.leadsTo Tryz.f448 = [228,227]:=by kernel_rfl
theorem bDH:inP Tryz.f448=false:=by kernel_rfl
theorem aR9:Tryz.prog.leadsTo Tryz.f449 = [523,522]:=by kernel_rfl
theorem bDI:inP Tryz.f449=false:=by kernel_rfl
theorem aSa:Tryz.prog.leadsTo Tryz.f450 = [229,525,524]:=by kernel_rfl
theorem bDJ:inP Tryz.f450=false:=by kernel_rfl
theorem aSb:Tryz.prog.leadsTo Tryz.f451 = [186,256,35,39]:=by kernel_rfl
theorem bDK:inP Tryz.f451=false:=by kernel_rfl
theorem aSc:Tryz.prog.leadsTo Tryz.f452 = [526,228,444,527,369]:=by kernel_rfl
theorem bDL:inP Tryz.f452=false:=by kernel_rfl
theorem aSd:Tryz.prog.leadsTo Tryz.f453 = [472,35,35,528,35,528,35,35,86,528,35,35,529,86,39,38]:=by kernel_rfl
theorem bDM:inP Tryz.f453=false:=by kernel_rfl
theorem aSe:Tryz.prog.leadsTo Tryz.f454 = []:=by kernel_rfl
theorem bDN:inP Tryz.f454=false:=by kernel_rfl
theorem aSf:Tryz.prog.leadsTo Tryz.f455 = [514]:=by kernel_rfl
theorem bDO:inP Tryz.f455=false:=by kernel_rfl
theorem aSg:Tryz.prog.leadsTo Tryz.f456 = [530]:=by kernel_rfl
theorem bDP:inP Tryz.f456=false:=by kernel_rfl
theorem aSh:Tryz.prog.leadsTo Tryz.f457 = [532,531]:=by kernel_rfl
theorem bDQ:inP Tryz.f457=false:=by kernel_rfl
theorem aSi:Tryz.prog.leadsTo Tryz.f458 = []:=by kernel_rfl
theorem bDR:inP Tryz.f458=false:=by kernel_rfl
theorem aSj:Tryz.prog.leadsTo Tryz.f459 = [533,534,535]:=by kernel_rfl
theorem bDS:inP Tryz.f459=false:=by kernel_rfl
theorem aSk:Tryz.prog.leadsTo Tryz.f460 = [226,226,536,466,459,537,450,228,346,367]:=by kernel_rfl
theorem bDT:inP Tryz.f460=false:=by kernel_rfl
theorem aSl:Tryz.prog.leadsTo Tryz.f461 = [186,538]:=by kernel_rfl
theorem bDU:inP Tryz.f461=false:=by kernel_rfl
theorem aSm:Tryz.prog.leadsTo Tryz.f462 = [366]:=by kernel_rfl
theorem bDV:inP Tryz.f462=false:=by kernel_rfl
theorem aSn:Tryz.prog.leadsTo Tryz.f463 = [433,539]:=by kernel_rfl
theorem bDW:inP Tryz.f463=false:=by kernel_rfl
theorem aSo:Tryz.prog.leadsTo Tryz.f464 = [514]:=by kernel_rfl
theorem bDX:inP Tryz.f464=false:=by kernel_rfl
theorem aSp:Tryz.prog.leadsTo Tryz.f465 = []:=by kernel_rfl
theorem bDY:inP Tryz.f465=false:=by kernel_rfl
theorem aSq:Tryz.prog.leadsTo Tryz.f466 = []:=by kernel_rfl
theorem bDZ:inP Tryz.f466=false:=by kernel_rfl
theorem aSr:Tryz.prog.leadsTo Tryz.f467 = [510,540,541,429,428,542,541]:=by kernel_rfl
theorem bD0:inP Tryz.f467=false:=by kernel_rfl
theorem aSs:Tryz.prog.leadsTo Tryz.f468 = [543,35,544,35,545,546,547,548,39]:=by kernel_rfl
theorem bD1:inP Tryz.f468=false:=by kernel_rfl
theorem aSt:Tryz.prog.leadsTo Tryz.f469 = [311,550,549,551]:=by kernel_rfl
theorem bD2:inP Tryz.f469=false:=by kernel_rfl
theorem aSu:Tryz.prog.leadsTo Tryz.f470 = [23]:=by kernel_rfl
theorem bD3:inP Tryz.f470=false:=by kernel_rfl
theorem aSv:Tryz.prog.leadsTo Tryz.f471 = [516,23,73,505,75,23,23,516,23,23,23,23,23,23,23,73]:=by kernel_rfl
theorem bD4:inP Tryz.f471=false:=by kernel_rfl
theorem aSw:Tryz.prog.leadsTo Tryz.f472 = [552,552,553,554,555]:=by kernel_rfl
theorem bD5:inP Tryz.f472=false:=by kernel_rfl
theorem aSx:Tryz.prog.leadsTo Tryz.f473 = [348,472,226,556,557,558,377]:=by kernel_rfl
theorem bD6:inP Tryz.f473=false:=by kernel_rfl
theorem aSy:Tryz.prog.leadsTo Tryz.f474 = []:=by kernel_rfl
theorem bD7:inP Tryz.f474=false:=by kernel_rfl
theorem aSz:Tryz.prog.leadsTo Tryz.f475 = []:=by kernel_rfl
theorem bD8:inP Tryz.f475=false:=by kernel_rfl
theorem aSA:Tryz.prog.leadsTo Tryz.f476 = [71]:=by kernel_rfl
theorem bD9:inP Tryz.f476=false:=by kernel_rfl
theorem aSB:Tryz.prog.leadsTo Tryz.f477 = [403]:=by kernel_rfl
theorem bEa:inP Tryz.f477=false:=by kernel_rfl
theorem aSC:Tryz.prog.leadsTo Tryz.f478 = []:=by kernel_rfl
theorem bEb:inP Tryz.f478=false:=by kernel_rfl
theorem aSD:Tryz.prog.leadsTo Tryz.f479 = [559]:=by kernel_rfl
theorem bEc:inP Tryz.f479=false:=by kernel_rfl
theorem aSE:Tryz.prog.leadsTo Tryz.f480 = [164,560]:=by kernel_rfl
theorem bEd:inP Tryz.f480=false:=by kernel_rfl
theorem aSF:Tryz.prog.leadsTo Tryz.f481 = [561]:=by kernel_rfl
theorem bEe:inP Tryz.f481=false:=by kernel_rfl
theorem aSG:Tryz.prog.leadsTo Tryz.f482 = [562,563]:=by kernel_rfl
theorem bEf:inP Tryz.f482=false:=by kernel_rfl
theorem aSH:Tryz.prog.leadsTo Tryz.f483 = [564]:=by kernel_rfl
theorem bEg:inP Tryz.f483=false:=by kernel_rfl
theorem aSI:Tryz.prog.leadsTo Tryz.f484 = [564,565,485]:=by kernel_rfl
theorem bEh:inP Tryz.f484=false:=by kernel_rfl
theorem aSJ:Tryz.prog.leadsTo Tryz.f485 = [566,559]:=by kernel_rfl
theorem bEi:inP Tryz.f485=false:=by kernel_rfl
theorem aSK:Tryz.prog.leadsTo Tryz.f486 = []:=by kernel_rfl
theorem bEj:inP Tryz.f486=false:=by kernel_rfl
theorem aSL:Tryz.prog.leadsTo Tryz.f487 = [567,569,568]:=by kernel_rfl
theorem bEk:inP Tryz.f487=false:=by kernel_rfl
theorem aSM:Tryz.prog.leadsTo Tryz.f488 = [517]:=by kernel_rfl
theorem bEl:inP Tryz.f488=false:=by kernel_rfl
theorem aSN:Tryz.prog.leadsTo Tryz.f489 = [311,416,330,417]:=by kernel_rfl
theorem bEm:inP Tryz.f489=false:=by kernel_rfl
theorem aSO:Tryz.prog.leadsTo Tryz.f490 = []:=by kernel_rfl
theorem bEn:inP Tryz.f490=false:=by kernel_rfl
theorem aSP:Tryz.prog.leadsTo Tryz.f491 = [480,570]:=by kernel_rfl
theorem bEo:inP Tryz.f491=false:=by kernel_rfl
theorem aSQ:Tryz.prog.leadsTo Tryz.f492 = [308,480]:=by kernel_rfl
theorem bEp:inP Tryz.f492=false:=by kernel_rfl
theorem aSR:Tryz.prog.leadsTo Tryz.f493 = []:=by kernel_rfl
theorem bEq:inP Tryz.f493=false:=by kernel_rfl
theorem aSS:Tryz.prog.leadsTo Tryz.f494 = [571,572,572]:=by kernel_rfl
theorem bEr:inP Tryz.f494=false:=by kernel_rfl
theorem aST:Tryz.prog.leadsTo Tryz.f495 = [137,488]:=by kernel_rfl
theorem bEs:inP Tryz.f495=false:=by kernel_rfl
theorem aSU:Tryz.prog.leadsTo Tryz.f496 = []:=by kernel_rfl
theorem bEt:inP Tryz.f496=false:=by kernel_rfl
theorem aSV:Tryz.prog.leadsTo Tryz.f497 = []:=by kernel_rfl
theorem bEu:inP Tryz.f497=false:=by kernel_rfl
theorem aSW:Tryz.prog.leadsTo Tryz.f498 = [330]:=by kernel_rfl
theorem bEv:inP Tryz.f498=false:=by kernel_rfl
theorem aSX:Tryz.prog.leadsTo Tryz.f499 = []:=by kernel_rfl
theorem bEw:inP Tryz.f499=false:=by kernel_rfl
theorem aSY:Tryz.prog.leadsTo Tryz.f500 = [573,574]:=by kernel_rfl
theorem bEx:inP Tryz.f500=false:=by kernel_rfl
theorem aSZ:Tryz.prog.leadsTo Tryz.f501 = [575]:=by kernel_rfl
theorem bEy:inP Tryz.f501=false:=by kernel_rfl
theorem aS0:Tryz.prog.leadsTo Tryz.f502 = [504,576,577,578]:=by kernel_rfl
theorem bEz:inP Tryz.f502=false:=by kernel_rfl
theorem aS1:Tryz.prog.leadsTo Tryz.f503 = [575]:=by kernel_rfl
theorem bEA:inP Tryz.f503=false:=by kernel_rfl
theorem aS2:Tryz.prog.leadsTo Tryz.f504 = [579,71]:=by kernel_rfl
theorem bEB:inP Tryz.f504=false:=by kernel_rfl
theorem aS3:Tryz.prog.leadsTo Tryz.f505 = [21,22,23,23,23,23,73,27,554]:=by kernel_rfl
theorem bEC:inP Tryz.f505=false:=by kernel_rfl
theorem aS4:Tryz.prog.leadsTo Tryz.f506 = [281,580,581,582,504,583,575]:=by kernel_rfl
theorem bED:inP Tryz.f506=false:=by kernel_rfl
theorem aS5:Tryz.prog.leadsTo Tryz.f507 = [584,585,504,585,577,585,578]:=by kernel_rfl
theorem bEE:inP Tryz.f507=false:=by kernel_rfl
theorem aS6:Tryz.prog.leadsTo Tryz.f508 = [586,71]:=by kernel_rfl
theorem bEF:inP Tryz.f508=false:=by kernel_rfl
theorem aS7:Tryz.prog.leadsTo Tryz.f509 = [584,585,575,587,588]:=by kernel_rfl
theorem bEG:inP Tryz.f509=false:=by kernel_rfl
theorem aS8:Tryz.prog.leadsTo Tryz.f510 = []:=by kernel_rfl
theorem bEH:inP Tryz.f510=false:=by kernel_rfl
theorem aS9:Tryz.prog.leadsTo Tryz.f511 = [302,428]:=by kernel_rfl
theorem bEI:inP Tryz.f511=false:=by kernel_rfl
theorem aTa:Tryz.prog.leadsTo Tryz.f512 = [22,23,27,255]:=by kernel_rfl
theorem bEJ:inP Tryz.f512=false:=by kernel_rfl
theorem aTb:Tryz.prog.leadsTo Tryz.f513 = [399]:=by kernel_rfl
theorem bEK:inP Tryz.f513=false:=by kernel_rfl
theorem aTc:Tryz.prog.leadsTo Tryz.f514 = []:=by kernel_rfl
theorem bEL:inP Tryz.f514=false:=by kernel_rfl
theorem aTd:Tryz.prog.leadsTo Tryz.f515 = [496]:=by kernel_rfl
theorem bEM:inP Tryz.f515=false:=by kernel_rfl
theorem aTe:Tryz.prog.leadsTo Tryz.f516 = [23]:=by kernel_rfl
theorem bEN:inP Tryz.f516=false:=by kernel_rfl
theorem aTf:Tryz.prog.leadsTo Tryz.f517 = [573,589,590,591,592,594,593]:=by kernel_rfl
theorem bEO:inP Tryz.f517=false:=by kernel_rfl
theorem aTg:Tryz.prog.leadsTo Tryz.f518 = [596,595]:=by kernel_rfl
theorem bEP:inP Tryz.f518=false:=by kernel_rfl
theorem aTh:Tryz.prog.leadsTo Tryz.f519 = [514]:=by kernel_rfl
theorem bEQ:inP Tryz.f519=false:=by kernel_rfl
theorem aTi:Tryz.prog.leadsTo Tryz.f520 = [597,598]:=by kernel_rfl
theorem bER:inP Tryz.f520=false:=by kernel_rfl
theorem aTj:Tryz.prog.leadsTo Tryz.f521 = []:=by kernel_rfl
theorem bES:inP Tryz.f521=false:=by kernel_rfl
theorem aTk:Tryz.prog.leadsTo Tryz.f522 = []:=by kernel_rfl
theorem bET:inP Tryz.f522=false:=by kernel_rfl
theorem aTl:Tryz.prog.leadsTo Tryz.f523 = [360]:=by kernel_rfl
theorem bEU:inP Tryz.f523=false:=by kernel_rfl
theorem aTm:Tryz.prog.leadsTo Tryz.f524 = [599]:=by kernel_rfl
theorem bEV:inP Tryz.f524=false:=by kernel_rfl
theorem aTn:Tryz.prog.leadsTo Tryz.f525 = []:=by kernel_rfl
theorem bEW:inP Tryz.f525=false:=by kernel_rfl
theorem aTo:Tryz.prog.leadsTo Tryz.f526 = [226,600,466,347]:=by kernel_rfl
theorem bEX:inP Tryz.f526=false:=by kernel_rfl
theorem aTp:Tryz.prog.leadsTo Tryz.f527 = [228,601,430,226,444,372,375]:=by kernel_rfl
theorem bEY:inP Tryz.f527=false:=by kernel_rfl
theorem aTq:Tryz.prog.leadsTo Tryz.f528 = [35]:=by kernel_rfl
theorem bEZ:inP Tryz.f528=false:=by kernel_rfl
theorem aTr:Tryz.prog.leadsTo Tryz.f529 = [554,35,35,86,39,38]:=by kernel_rfl
theorem bE0:inP Tryz.f529=false:=by kernel_rfl
theorem aTs:Tryz.prog.leadsTo Tryz.f530 = []:=by kernel_rfl
theorem bE1:inP Tryz.f530=false:=by kernel_rfl
theorem aTt:Tryz.prog.leadsTo Tryz.f531 = [602,603,604,605,606,607,608,609,610,531,531]:=by kernel_rfl
theorem bE2:inP Tryz.f531=false:=by kernel_rfl
theorem aTu:Tryz.prog.leadsTo Tryz.f532 = [611,612]:=by kernel_rfl
theorem bE3:inP Tryz.f532=false:=by kernel_rfl
theorem aTv:Tryz.prog.leadsTo Tryz.f533 = [186,229]:=by kernel_rfl
theorem bE4:inP Tryz.f533=false:=by kernel_rfl
theorem aTw:Tryz.prog.leadsTo Tryz.f534 = [613,360]:=by kernel_rfl
theorem bE5:inP Tryz.f534=false:=by kernel_rfl
theorem aTx:Tryz.prog.leadsTo Tryz.f535 = [613,538,614,615]:=by kernel_rfl
theorem bE6:inP Tryz.f535=false:=by kernel_rfl
theorem aTy:Tryz.prog.leadsTo Tryz.f536 = [510,616,541]:=by kernel_rfl
theorem bE7:inP Tryz.f536=false:=by kernel_rfl
theorem aTz:Tryz.prog.leadsTo Tryz.f537 = [450,228,617,618,526,376,527]:=by kernel_rfl
theorem bE8:inP Tryz.f537=false:=by kernel_rfl
theorem aTA:Tryz.prog.leadsTo Tryz.f538 = [186]:=by kernel_rfl
theorem bE9:inP Tryz.f538=false:=by kernel_rfl
theorem aTB:Tryz.prog.leadsTo Tryz.f539 = []:=by kernel_rfl
theorem bFa:inP Tryz.f539=false:=by kernel_rfl
theorem aTC:Tryz.prog.leadsTo Tryz.f540 = [475,529,503,619,621,622,476]:=by kernel_rfl
theorem bFb:inP Tryz.f540=false:=by kernel_rfl
theorem aTD:Tryz.prog.leadsTo Tryz.f541 = []:=by kernel_rfl
theorem bFc:inP Tryz.f541=false:=by kernel_rfl
theorem aTE:Tryz.prog.leadsTo Tryz.f542 = [399,303,585,575,588,586]:=by kernel_rfl
theorem bFd:inP Tryz.f542=false:=by kernel_rfl
theorem aTF:Tryz.prog.leadsTo Tryz.f543 = [107,230,624,310,625,234]:=by kernel_rfl
theorem bFe:inP Tryz.f543=false:=by kernel_rfl
theorem aTG:Tryz.prog.leadsTo Tryz.f544 = [304,35,626,595,35,128,35,627,595,35,129]:=by kernel_rfl
theorem bFf:inP Tryz.f544=false:=by kernel_rfl
theorem aTH:Tryz.prog.leadsTo Tryz.f545 = [35]:=by kernel_rfl
theorem bFg:inP Tryz.f545=false:=by kernel_rfl
theorem aTI:Tryz.prog.leadsTo Tryz.f546 = [36,35,35]:=by kernel_rfl
theorem bFh:inP Tryz.f546=false:=by kernel_rfl
theorem aTJ:Tryz.prog.leadsTo Tryz.f547 = [35,35]:=by kernel_rfl
theorem bFi:inP Tryz.f547=false:=by kernel_rfl
theorem aTK:Tryz.prog.leadsTo Tryz.f548 = [236,35,629,628,35,630]:=by kernel_rfl
theorem bFj:inP Tryz.f548=false:=by kernel_rfl
theorem aTL:Tryz.prog.leadsTo Tryz.f549 = []:=by kernel_rfl
theorem bFk:inP Tryz.f549=false:=by kernel_rfl
theorem aTM:Tryz.prog.leadsTo Tryz.f550 = [330]:=by kernel_rfl
theorem bFl:inP Tryz.f550=false:=by kernel_rfl
theorem aTN:Tryz.prog.leadsTo Tryz.f551 = []:=by kernel_rfl
theorem bFm:inP Tryz.f551=false:=by kernel_rfl
theorem aTO:Tryz.prog.leadsTo Tryz.f552 = []:=by kernel_rfl
theorem bFn:inP Tryz.f552=false:=by kernel_rfl
theorem aTP:Tryz.prog.leadsTo Tryz.f553 = [631,512]:=by kernel_rfl
theorem bFo:inP Tryz.f553=false:=by kernel_rfl
theorem aTQ:Tryz.prog.leadsTo Tryz.f554 = [632]:=by kernel_rfl
theorem bFp:inP Tryz.f554=false:=by kernel_rfl
theorem aTR:Tryz.prog.leadsTo Tryz.f555 = [633]:=by kernel_rfl
theorem bFq:inP Tryz.f555=false:=by kernel_rfl
theorem aTS:Tryz.prog.leadsTo Tryz.f556 = [367,367,367]:=by kernel_rfl
theorem bFr:inP Tryz.f556=false:=by kernel_rfl
theorem aTT:Tryz.prog.leadsTo Tryz.f557 = [634,536,466,375]:=by kernel_rfl
theorem bFs:inP Tryz.f557=false:=by kernel_rfl
theorem aTU:Tryz.prog.leadsTo Tryz.f558 = [226,634,635,367,636,637,638,360,460,639]:=by kernel_rfl
theorem bFt:inP Tryz.f558=false:=by kernel_rfl
theorem aTV:Tryz.prog.leadsTo Tryz.f559 = [641,642,640]:=by kernel_rfl
theorem bFu:inP Tryz.f559=false:=by kernel_rfl
theorem aTW:Tryz.prog.leadsTo Tryz.f560 = [643]:=by kernel_rfl
theorem bFv:inP Tryz.f560=false:=by kernel_rfl
theorem aTX:Tryz.prog.leadsTo Tryz.f561 = [164,644]:=by kernel_rfl
theorem bFw:inP Tryz.f561=false:=by kernel_rfl
theorem aTY:Tryz.prog.leadsTo Tryz.f562 = []:=by kernel_rfl
theorem bFx:inP Tryz.f562=false:=by kernel_rfl
theorem aTZ:Tryz.prog.leadsTo Tryz.f563 = [564]:=by kernel_rfl
theorem bFy:inP Tryz.f563=false:=by kernel_rfl
theorem aT0:Tryz.prog.leadsTo Tryz.f564 = []:=by kernel_rfl
theorem bFz:inP Tryz.f564=false:=by kernel_rfl
theorem aT1:Tryz.prog.leadsTo Tryz.f565 = []:=by kernel_rfl
theorem bFA:inP Tryz.f565=false:=by kernel_rfl
theorem aT2:Tryz.prog.leadsTo Tryz.f566 = [645]:=by kernel_rfl
theorem bFB:inP Tryz.f566=false:=by kernel_rfl
theorem aT3:Tryz.prog.leadsTo Tryz.f567 = [646]:=by kernel_rfl
theorem bFC:inP Tryz.f567=false:=by kernel_rfl
theorem aT4:Tryz.prog.leadsTo Tryz.f568 = [647,648]:=by kernel_rfl
theorem bFD:inP Tryz.f568=false:=by kernel_rfl
theorem aT5:Tryz.prog.leadsTo Tryz.f569 = [649]:=by kernel_rfl
theorem bFE:inP Tryz.f569=false:=by kernel_rfl
theorem aT6:Tryz.prog.leadsTo Tryz.f570 = [643]:=by kernel_rfl
theorem bFF:inP Tryz.f570=false:=by kernel_rfl
theorem aT7:Tryz.prog.leadsTo Tryz.f571 = [482]:=by kernel_rfl
theorem bFG:inP Tryz.f571=false:=by kernel_rfl
theorem aT8:Tryz.prog.leadsTo Tryz.f572 = [564,484]:=by kernel_rfl
theorem bFH:inP Tryz.f572=false:=by kernel_rfl
theorem aT9:Tryz.prog.leadsTo Tryz.f573 = []:=by kernel_rfl
theorem bFI:inP Tryz.f573=false:=by kernel_rfl
theorem aUa:Tryz.prog.leadsTo Tryz.f574 = [573,589,589,592,592,650]:=by kernel_rfl
theorem bFJ:inP Tryz.f574=false:=by kernel_rfl
theorem aUb:Tryz.prog.leadsTo Tryz.f575 = [579,651]:=by kernel_rfl
theorem bFK:inP Tryz.f575=false:=by kernel_rfl
theorem aUc:Tryz.prog.leadsTo Tryz.f576 = [652,22,23,23,27]:=by kernel_rfl
theorem bFL:inP Tryz.f576=false:=by kernel_rfl
theorem aUd:Tryz.prog.leadsTo Tryz.f577 = [579,651]:=by kernel_rfl
theorem bFM:inP Tryz.f577=false:=by kernel_rfl
theorem aUe:Tryz.prog.leadsTo Tryz.f578 = [579,651]:=by kernel_rfl
theorem bFN:inP Tryz.f578=false:=by kernel_rfl
theorem aUf:Tryz.prog.leadsTo Tryz.f579 = [264]:=by kernel_rfl
theorem bFO:inP Tryz.f579=false:=by kernel_rfl
theorem aUg:Tryz.prog.leadsTo Tryz.f580 = [653]:=by kernel_rfl
theorem bFP:inP Tryz.f580=false:=by kernel_rfl
theorem aUh:Tryz.prog.leadsTo Tryz.f581 = [582]:=by kernel_rfl
theorem bFQ:inP Tryz.f581=false:=by kernel_rfl
theorem aUi:Tryz.prog.leadsTo Tryz.f582 = [654]:=by kernel_rfl
theorem bFR:inP Tryz.f582=false:=by kernel_rfl
theorem aUj:Tryz.prog.leadsTo Tryz.f583 = [655,303]:=by kernel_rfl
theorem bFS:inP Tryz.f583=false:=by kernel_rfl
theorem aUk:Tryz.prog.leadsTo Tryz.f584 = []:=by kernel_rfl
theorem bFT:inP Tryz.f584=false:=by kernel_rfl
theorem aUl:Tryz.prog.leadsTo Tryz.f585 = [656]:=by kernel_rfl
theorem bFU:inP Tryz.f585=false:=by kernel_rfl
theorem aUm:Tryz.prog.leadsTo Tryz.f586 = []:=by kernel_rfl
theorem bFV:inP Tryz.f586=false:=by kernel_rfl
theorem aUn:Tryz.prog.leadsTo Tryz.f587 = []:=by kernel_rfl
theorem bFW:inP Tryz.f587=false:=by kernel_rfl
theorem aUo:Tryz.prog.leadsTo Tryz.f588 = []:=by kernel_rfl
theorem bFX:inP Tryz.f588=false:=by kernel_rfl
theorem aUp:Tryz.prog.leadsTo Tryz.f589 = []:=by kernel_rfl
theorem bFY:inP Tryz.f589=false:=by kernel_rfl
theorem aUq:Tryz.prog.leadsTo Tryz.f590 = [657,658]:=by kernel_rfl
theorem bFZ:inP Tryz.f590=false:=by kernel_rfl
theorem aUr:Tryz.prog.leadsTo Tryz.f591 = [659]:=by kernel_rfl
theorem bF0:inP Tryz.f591=false:=by kernel_rfl
theorem aUs:Tryz.prog.leadsTo Tryz.f592 = [661]:=by kernel_rfl
theorem bF1:inP Tryz.f592=false:=by kernel_rfl
theorem aUt:Tryz.prog.leadsTo Tryz.f593 = [590,657,658,662,658]:=by kernel_rfl
theorem bF2:inP Tryz.f593=false:=by kernel_rfl
theorem aUu:Tryz.prog.leadsTo Tryz.f594 = [657,663,590,658]:=by kernel_rfl
theorem bF3:inP Tryz.f594=false:=by kernel_rfl
theorem aUv:Tryz.prog.leadsTo Tryz.f595 = [664,665]:=by kernel_rfl
theorem bF4:inP Tryz.f595=false:=by kernel_rfl
theorem aUw:Tryz.prog.leadsTo Tryz.f596 = [666]:=by kernel_rfl
theorem bF5:inP Tryz.f596=false:=by kernel_rfl
theorem aUx:Tryz.prog.leadsTo Tryz.f597 = [186,366,667,538]:=by kernel_rfl
theorem bF6:inP Tryz.f597=false:=by kernel_rfl
theorem aUy:Tryz.prog.leadsTo Tryz.f598 = []:=by kernel_rfl
theorem bF7:inP Tryz.f598=false:=by kernel_rfl
theorem aUz:Tryz.prog.leadsTo Tryz.f599 = []:=by kernel_rfl
theorem bF8:inP Tryz.f599=false:=by kernel_rfl
theorem aUA:Tryz.prog.leadsTo Tryz.f600 = [510,668,669,541]:=by kernel_rfl
theorem bF9:inP Tryz.f600=false:=by kernel_rfl
theorem aUB:Tryz.prog.leadsTo Tryz.f601 = [597,670]:=by kernel_rfl
theorem bGa:inP Tryz.f601=false:=by kernel_rfl
theorem aUC:Tryz.prog.leadsTo Tryz.f602 = [608]:=by kernel_rfl
theorem bGb:inP Tryz.f602=false:=by kernel_rfl
theorem aUD:Tryz.prog.leadsTo Tryz.f603 = [671,671]:=by kernel_rfl
theorem bGc:inP Tryz.f603=false:=by kernel_rfl
theorem aUE:Tryz.prog.leadsTo Tryz.f604 = [672,673]:=by kernel_rfl
theorem bGd:inP Tryz.f604=false:=by kernel_rfl
theorem aUF:Tryz.prog.leadsTo Tryz.f605 = [674,674,674,675]:=by kernel_rfl
theorem bGe:inP Tryz.f605=false:=by kernel_rfl
theorem aUG:Tryz.prog.leadsTo Tryz.f606 = []:=by kernel_rfl
theorem bGf:inP Tryz.f606=false:=by kernel_rfl
theorem aUH:Tryz.prog.leadsTo Tryz.f607 = [608,608,608]:=by kernel_rfl
theorem bGg:inP Tryz.f607=false:=by kernel_rfl
theorem aUI:Tryz.prog.leadsTo Tryz.f608 = [676,676]:=by kernel_rfl
theorem bGh:inP Tryz.f608=false:=by kernel_rfl
theorem aUJ:Tryz.prog.leadsTo Tryz.f609 = [608,608]:=by kernel_rfl
theorem bGi:inP Tryz.f609=false:=by kernel_rfl
theorem aUK:Tryz.prog.leadsTo Tryz.f610 = [608,608,608,608]:=by kernel_rfl
theorem bGj:inP Tryz.f610=false:=by kernel_rfl
theorem aUL:Tryz.prog.leadsTo Tryz.f611 = []:=by kernel_rfl
theorem bGk:inP Tryz.f611=false:=by kernel_rfl
theorem aUM:Tryz.prog.leadsTo Tryz.f612 = []:=by kernel_rfl
theorem bGl:inP Tryz.f612=false:=by kernel_rfl
theorem aUN:Tryz.prog.leadsTo Tryz.f613 = []:=by kernel_rfl
theorem bGm:inP Tryz.f613=false:=by kernel_rfl
theorem aUO:Tryz.prog.leadsTo Tryz.f614 = [677]:=by kernel_rfl
theorem bGn:inP Tryz.f614=false:=by kernel_rfl
theorem aUP:Tryz.prog.leadsTo Tryz.f615 = [677]:=by kernel_rfl
theorem bGo:inP Tryz.f615=false:=by kernel_rfl
theorem aUQ:Tryz.prog.leadsTo Tryz.f616 = [474,678,679,681,680]:=by kernel_rfl
theorem bGp:inP Tryz.f616=false:=by kernel_rfl
theorem aUR:Tryz.prog.leadsTo Tryz.f617 = [449]:=by kernel_rfl
theorem bGq:inP Tryz.f617=false:=by kernel_rfl
theorem aUS:Tryz.prog.leadsTo Tryz.f618 = []:=by kernel_rfl
theorem bGr:inP Tryz.f618=false:=by kernel_rfl
theorem aUT:Tryz.prog.leadsTo Tryz.f619 = [620]:=by kernel_rfl
theorem bGs:inP Tryz.f619=false:=by kernel_rfl
theorem aUU:Tryz.prog.leadsTo Tryz.f620 = [579,682,683,651]:=by kernel_rfl
theorem bGt:inP Tryz.f620=false:=by kernel_rfl
theorem aUV:Tryz.prog.leadsTo Tryz.f621 = [578]:=by kernel_rfl
theorem bGu:inP Tryz.f621=false:=by kernel_rfl
theorem aUW:Tryz.prog.leadsTo Tryz.f622 = [623]:=by kernel_rfl
theorem bGv:inP Tryz.f622=false:=by kernel_rfl
theorem aUX:Tryz.prog.leadsTo Tryz.f623 = [579,682,651]:=by kernel_rfl
theorem bGw:inP Tryz.f623=false:=by kernel_rfl
theorem aUY:Tryz.prog.leadsTo Tryz.f624 = [684,628]:=by kernel_rfl
theorem bGx:inP Tryz.f624=false:=by kernel_rfl
theorem aUZ:Tryz.prog.leadsTo Tryz.f625 = [311,312]:=by kernel_rfl
theorem bGy:inP Tryz.f625=false:=by kernel_rfl
theorem aU0:Tryz.prog.leadsTo Tryz.f626 = [685]:=by kernel_rfl
theorem bGz:inP Tryz.f626=false:=by kernel_rfl
theorem aU1:Tryz.prog.leadsTo Tryz.f627 = [686]:=by kernel_rfl
theorem bGA:inP Tryz.f627=false:=by kernel_rfl
theorem aU2:Tryz.prog.leadsTo Tryz.f628 = [687,667]:=by kernel_rfl
theorem bGB:inP Tryz.f628=false:=by kernel_rfl
theorem aU3:Tryz.prog.leadsTo Tryz.f629 = [688]:=by kernel_rfl
theorem bGC:inP Tryz.f629=false:=by kernel_rfl
theorem aU4:Tryz.prog.leadsTo Tryz.f630 = [35,36,335,528,335,545,35,35,35]:=by kernel_rfl
theorem bGD:inP Tryz.f630=false:=by kernel_rfl
theorem aU5:Tryz.prog.leadsTo Tryz.f631 = []:=by kernel_rfl
theorem bGE:inP Tryz.f631=false:=by kernel_rfl
theorem aU6:Tryz.prog.leadsTo Tryz.f632 = []:=by kernel_rfl
theorem bGF:inP Tryz.f632=false:=by kernel_rfl
theorem aU7:Tryz.prog.leadsTo Tryz.f633 = [339,689]:=by kernel_rfl
theorem bGG:inP Tryz.f633=false:=by kernel_rfl
theorem aU8:Tryz.prog.leadsTo Tryz.f634 = []:=by kernel_rfl
theorem bGH:inP Tryz.f634=false:=by kernel_rfl
theorem aU9:Tryz.prog.leadsTo Tryz.f635 = [346,228]:=by kernel_rfl
theorem bGI:inP Tryz.f635=false:=by kernel_rfl
theorem aVa:Tryz.prog.leadsTo Tryz.f636 = [226,534,535,460,537]:=by kernel_rfl
theorem bGJ:inP Tryz.f636=false:=by kernel_rfl
theorem aVb:Tryz.prog.leadsTo Tryz.f637 = [300,635,536,466,367]:=by kernel_rfl
theorem bGK:inP Tryz.f637=false:=by kernel_rfl
theorem aVc:Tryz.prog.leadsTo Tryz.f638 = [366,455,228,690,691,366,527,228,368,228,367,692,368,445]:=by kernel_rfl
theorem bGL:inP Tryz.f638=false:=by kernel_rfl
theorem aVd:Tryz.prog.leadsTo Tryz.f639 = [467,466,347,430,693,694,367]:=by kernel_rfl
theorem bGM:inP Tryz.f639=false:=by kernel_rfl
theorem aVe:Tryz.prog.leadsTo Tryz.f640 = []:=by kernel_rfl
theorem bGN:inP Tryz.f640=false:=by kernel_rfl
theorem aVf:Tryz.prog.leadsTo Tryz.f641 = [695,695]:=by kernel_rfl
theorem bGO:inP Tryz.f641=false:=by kernel_rfl
theorem aVg:Tryz.prog.leadsTo Tryz.f642 = [696,696]:=by kernel_rfl
theorem bGP:inP Tryz.f642=false:=by kernel_rfl
theorem aVh:Tryz.prog.leadsTo Tryz.f643 = [564,698,697]:=by kernel_rfl
theorem bGQ:inP Tryz.f643=false:=by kernel_rfl
theorem aVi:Tryz.prog.leadsTo Tryz.f644 = [564]:=by kernel_rfl
theorem bGR:inP Tryz.f644=false:=by kernel_rfl
theorem aVj:Tryz.prog.leadsTo Tryz.f645 = [699,699,700,700]:=by kernel_rfl
theorem bGS:inP Tryz.f645=false:=by kernel_rfl
theorem aVk:Tryz.prog.leadsTo Tryz.f646 = []:=by kernel_rfl
theorem bGT:inP Tryz.f646=true:=by kernel_rfl
theorem aVl:Tryz.prog.leadsTo Tryz.f647 = [701]:=by kernel_rfl
theorem bGU:inP Tryz.f647=false:=by kernel_rfl
theorem aVm:Tryz.prog.leadsTo Tryz.f648 = [702,703,647,649]:=by kernel_rfl
theorem bGV:inP Tryz.f648=false:=by kernel_rfl
theorem aVn:Tryz.prog.leadsTo Tryz.f649 = [705,704]:=by kernel_rfl
theorem bGW:inP Tryz.f649=false:=by kernel_rfl
theorem aVo:Tryz.prog.leadsTo Tryz.f650 = [707,706]:=by kernel_rfl
theorem bGX:inP Tryz.f650=false:=by kernel_rfl
theorem aVp:Tryz.prog.leadsTo Tryz.f651 = [708]:=by kernel_rfl
theorem bGY:inP Tryz.f651=false:=by kernel_rfl
theorem aVq:Tryz.prog.leadsTo Tryz.f652 = [709]:=by kernel_rfl
theorem bGZ:inP Tryz.f652=false:=by kernel_rfl
theorem aVr:Tryz.prog.leadsTo Tryz.f653 = []:=by kernel_rfl
theorem bG0:inP Tryz.f653=false:=by kernel_rfl
theorem aVs:Tryz.prog.leadsTo Tryz.f654 = [710]:=by kernel_rfl
theorem bG1:inP Tryz.f654=false:=by kernel_rfl
theorem aVt:Tryz.prog.leadsTo Tryz.f655 = [652,711,712]:=by kernel_rfl
theorem bG2:inP Tryz.f655=false:=by kernel_rfl
theorem aVu:Tryz.prog.leadsTo Tryz.f656 = []:=by kernel_rfl
theorem bG3:inP Tryz.f656=false:=by kernel_rfl
theorem aVv:Tryz.prog.leadsTo Tryz.f657 = []:=by kernel_rfl
theorem bG4:inP Tryz.f657=false:=by kernel_rfl
theorem aVw:Tryz.prog.leadsTo Tryz.f658 = [567,713,568]:=by kernel_rfl
theorem bG5:inP Tryz.f658=false:=by kernel_rfl
theorem aVx:Tryz.prog.leadsTo Tryz.f659 = [660]:=by kernel_rfl
theorem bG6:inP Tryz.f659=false:=by kernel_rfl
theorem aVy:Tryz.prog.leadsTo Tryz.f660 = [707,715,714]:=by kernel_rfl
theorem bG7:inP Tryz.f660=false:=by kernel_rfl
theorem aVz:Tryz.prog.leadsTo Tryz.f661 = [594]:=by kernel_rfl
theorem bG8:inP Tryz.f661=false:=by kernel_rfl
theorem aVA:Tryz.prog.leadsTo Tryz.f662 = [716,717,717]:=by kernel_rfl
theorem bG9:inP Tryz.f662=false:=by kernel_rfl
theorem aVB:Tryz.prog.leadsTo Tryz.f663 = [718,719]:=by kernel_rfl
theorem bHa:inP Tryz.f663=false:=by kernel_rfl
theorem aVC:Tryz.prog.leadsTo Tryz.f664 = [720]:=by kernel_rfl
theorem bHb:inP Tryz.f664=false:=by kernel_rfl
theorem aVD:Tryz.prog.leadsTo Tryz.f665 = [532,721]:=by kernel_rfl
theorem bHc:inP Tryz.f665=false:=by kernel_rfl
theorem aVE:Tryz.prog.leadsTo Tryz.f666 = []:=by kernel_rfl
theorem bHd:inP Tryz.f666=false:=by kernel_rfl
theorem aVF:Tryz.prog.leadsTo Tryz.f667 = [532,722]:=by kernel_rfl
theorem bHe:inP Tryz.f667=false:=by kernel_rfl
theorem aVG:Tryz.prog.leadsTo Tryz.f668 = [399,303,723,303,584,669,724,585,620,584,508]:=by kernel_rfl
theorem bHf:inP Tryz.f668=false:=by kernel_rfl
theorem aVH:Tryz.prog.leadsTo Tryz.f669 = [399,584,585,578]:=by kernel_rfl
theorem bHg:inP Tryz.f669=false:=by kernel_rfl
theorem aVI:Tryz.prog.leadsTo Tryz.f670 = []:=by kernel_rfl
theorem bHh:inP Tryz.f670=false:=by kernel_rfl
theorem aVJ:Tryz.prog.leadsTo Tryz.f671 = [608,608]:=by kernel_rfl
theorem bHi:inP Tryz.f671=false:=by kernel_rfl
theorem aVK:Tryz.prog.leadsTo Tryz.f672 = [532]:=by kernel_rfl
theorem bHj:inP Tryz.f672=false:=by kernel_rfl
theorem aVL:Tryz.prog.leadsTo Tryz.f673 = []:=by kernel_rfl
theorem bHk:inP Tryz.f673=false:=by kernel_rfl
theorem aVM:Tryz.prog.leadsTo Tryz.f674 = [675]:=by kernel_rfl
theorem bHl:inP Tryz.f674=false:=by kernel_rfl
theorem aVN:Tryz.prog.leadsTo Tryz.f675 = [725,725,725]:=by kernel_rfl
theorem bHm:inP Tryz.f675=false:=by kernel_rfl
theorem aVO:Tryz.prog.leadsTo Tryz.f676 = []:=by kernel_rfl
theorem bHn:inP Tryz.f676=false:=by kernel_rfl
theorem aVP:Tryz.prog.leadsTo Tryz.f677 = [613,665]:=by kernel_rfl
theorem bHo:inP Tryz.f677=false:=by kernel_rfl
theorem aVQ:Tryz.prog.leadsTo Tryz.f678 = []:=by kernel_rfl
theorem bHp:inP Tryz.f678=false:=by kernel_rfl
theorem aVR:Tryz.prog.leadsTo Tryz.f679 = [678,678]:=by kernel_rfl
theorem bHq:inP Tryz.f679=false:=by kernel_rfl
theorem aVS:Tryz.prog.leadsTo Tryz.f680 = [504,501,620,578,623]:=by kernel_rfl
theorem bHr:inP Tryz.f680=false:=by kernel_rfl
theorem aVT:Tryz.prog.leadsTo Tryz.f681 = [35,39,38]:=by kernel_rfl
theorem bHs:inP Tryz.f681=false:=by kernel_rfl
theorem aVU:Tryz.prog.leadsTo Tryz.f682 = []:=by kernel_rfl
theorem bHt:inP Tryz.f682=false:=by kernel_rfl
theorem aVV:Tryz.prog.leadsTo Tryz.f683 = [211]:=by kernel_rfl
theorem bHu:inP Tryz.f683=false:=by kernel_rfl
theorem aVW:Tryz.prog.leadsTo Tryz.f684 = [726]:=by kernel_rfl
theorem bHv:inP Tryz.f684=false:=by kernel_rfl
theorem aVX:Tryz.prog.leadsTo Tryz.f685 = []:=by kernel_rfl
theorem bHw:inP Tryz.f685=false:=by kernel_rfl
theorem aVY:Tryz.prog.leadsTo Tryz.f686 = []:=by kernel_rfl
theorem bHx:inP Tryz.f686=false:=by kernel_rfl
theorem aVZ:Tryz.prog.leadsTo Tryz.f687 = [727]:=by kernel_rfl
theorem bHy:inP Tryz.f687=false:=by kernel_rfl
theorem aV0:Tryz.prog.leadsTo Tryz.f688 = []:=by kernel_rfl
theorem bHz:inP Tryz.f688=false:=by kernel_rfl
theorem aV1:Tryz.prog.leadsTo Tryz.f689 = []:=by kernel_rfl
theorem bHA:inP Tryz.f689=false:=by kernel_rfl
theorem aV2:Tryz.prog.leadsTo Tryz.f690 = [454]:=by kernel_rfl
theorem bHB:inP Tryz.f690=false:=by kernel_rfl
theorem aV3:Tryz.prog.leadsTo Tryz.f691 = [454]:=by kernel_rfl
theorem bHC:inP Tryz.f691=false:=by kernel_rfl
theorem aV4:Tryz.prog.leadsTo Tryz.f692 = [454]:=by kernel_rfl
theorem bHD:inP Tryz.f692=false:=by kernel_rfl
theorem aV5:Tryz.prog.leadsTo Tryz.f693 = [228,430]:=by kernel_rfl
theorem bHE:inP Tryz.f693=false:=by kernel_rfl
theorem aV6:Tryz.prog.leadsTo Tryz.f694 = [430,728,466,600,466,347]:=by kernel_rfl
theorem bHF:inP Tryz.f694=false:=by kernel_rfl
theorem aV7:Tryz.prog.leadsTo Tryz.f695 = []:=by kernel_rfl
theorem bHG:inP Tryz.f695=false:=by kernel_rfl
theorem aV8:Tryz.prog.leadsTo Tryz.f696 = []:=by kernel_rfl
theorem bHH:inP Tryz.f696=false:=by kernel_rfl
theorem aV9:Tryz.prog.leadsTo Tryz.f697 = []:=by kernel_rfl
theorem bHI:inP Tryz.f697=false:=by kernel_rfl
theorem aWa:Tryz.prog.leadsTo Tryz.f698 = []:=by kernel_rfl
theorem bHJ:inP Tryz.f698=false:=by kernel_rfl
theorem aWb:Tryz.prog.leadsTo Tryz.f699 = []:=by kernel_rfl
theorem bHK:inP Tryz.f699=false:=by kernel_rfl
theorem aWc:Tryz.prog.leadsTo Tryz.f700 = [729,700,700]:=by kernel_rfl
theorem bHL:inP Tryz.f700=false:=by kernel_rfl
theorem aWd:Tryz.prog.leadsTo Tryz.f701 = []:=by kernel_rfl
theorem bHM:inP Tryz.f701=true:=by kernel_rfl
theorem aWe:Tryz.prog.leadsTo Tryz.f702 = [730]:=by kernel_rfl
theorem bHN:inP Tryz.f702=false:=by kernel_rfl
theorem aWf:Tryz.prog.leadsTo Tryz.f703 = [731]:=by kernel_rfl
theorem bHO:inP Tryz.f703=false:=by kernel_rfl
theorem aWg:Tryz.prog.leadsTo Tryz.f704 = []:=by kernel_rfl
theorem bHP:inP Tryz.f704=true:=by kernel_rfl
theorem aWh:Tryz.prog.leadsTo Tryz.f705 = []:=by kernel_rfl
theorem bHQ:inP Tryz.f705=false:=by kernel_rfl
theorem aWi:Tryz.prog.leadsTo Tryz.f706 = [341,732]:=by kernel_rfl
theorem bHR:inP Tryz.f706=false:=by kernel_rfl
theorem aWj:Tryz.prog.leadsTo Tryz.f707 = []:=by kernel_rfl
theorem bHS:inP Tryz.f707=false:=by kernel_rfl
theorem aWk:Tryz.prog.leadsTo Tryz.f708 = [734,733]:=by kernel_rfl
theorem bHT:inP Tryz.f708=false:=by kernel_rfl
theorem aWl:Tryz.prog.leadsTo Tryz.f709 = [70]:=by kernel_rfl
theorem bHU:inP Tryz.f709=false:=by kernel_rfl
theorem aWm:Tryz.prog.leadsTo Tryz.f710 = [736]:=by kernel_rfl
theorem bHV:inP Tryz.f710=false:=by kernel_rfl
theorem aWn:Tryz.prog.leadsTo Tryz.f711 = [22,23,27]:=by kernel_rfl
theorem bHW:inP Tryz.f711=false:=by kernel_rfl
theorem aWo:Tryz.prog.leadsTo Tryz.f712 = [22,23,23,23,73,27,631]:=by kernel_rfl
theorem bHX:inP Tryz.f712=false:=by kernel_rfl
theorem aWp:Tryz.prog.leadsTo Tryz.f713 = [649]:=by kernel_rfl
theorem bHY:inP Tryz.f713=false:=by kernel_rfl
theorem aWq:Tryz.prog.leadsTo Tryz.f714 = []:=by kernel_rfl
theorem bHZ:inP Tryz.f714=false:=by kernel_rfl
theorem aWr:Tryz.prog.leadsTo Tryz.f715 = []:=by kernel_rfl
theorem bH0:inP Tryz.f715=false:=by kernel_rfl
theorem aWs:Tryz.prog.leadsTo Tryz.f716 = [695,695]:=by kernel_rfl
theorem bH1:inP Tryz.f716=false:=by kernel_rfl
theorem aWt:Tryz.prog.leadsTo Tryz.f717 = []:=by kernel_rfl
theorem bH2:inP Tryz.f717=false:=by kernel_rfl
theorem aWu:Tryz.prog.leadsTo Tryz.f718 = []:=by kernel_rfl
theorem bH3:inP Tryz.f718=false:=by kernel_rfl
theorem aWv:Tryz.prog.leadsTo Tryz.f719 = []:=by kernel_rfl
theorem bH4:inP Tryz.f719=false:=by kernel_rfl
theorem aWw:Tryz.prog.leadsTo Tryz.f720 = []:=by kernel_rfl
theorem bH5:inP Tryz.f720=false:=by kernel_rfl
theorem aWx:Tryz.prog.leadsTo Tryz.f721 = [737,738,739,740,741,742,743,744,745,721,721]:=by kernel_rfl
theorem bH6:inP Tryz.f721=false:=by kernel_rfl
theorem aWy:Tryz.prog.leadsTo Tryz.f722 = [746,747,748,749,750,751,752,753,754,722,722]:=by kernel_rfl
theorem bH7:inP Tryz.f722=false:=by kernel_rfl
theorem aWz:Tryz.prog.leadsTo Tryz.f723 = [755]:=by kernel_rfl
theorem bH8:inP Tryz.f723=false:=by kernel_rfl
theorem aWA:Tryz.prog.leadsTo Tryz.f724 = [35,39,38]:=by kernel_rfl
theorem bH9:inP Tryz.f724=false:=by kernel_rfl
theorem aWB:Tryz.prog.leadsTo Tryz.f725 = [608]:=by kernel_rfl
theorem bIa:inP Tryz.f725=false:=by kernel_rfl
theorem aWC:Tryz.prog.leadsTo Tryz.f726 = []:=by kernel_rfl
theorem bIb:inP Tryz.f726=false:=by kernel_rfl
theorem aWD:Tryz.prog.leadsTo Tryz.f727 = []:=by kernel_rfl
theorem bIc:inP Tryz.f727=false:=by kernel_rfl
theorem aWE:Tryz.prog.leadsTo Tryz.f728 = [510,227,756,541]:=by kernel_rfl
theorem bId:inP Tryz.f728=false:=by kernel_rfl
theorem aWF:Tryz.prog.leadsTo Tryz.f729 = [757,757,757]:=by kernel_rfl
theorem bIe:inP Tryz.f729=false:=by kernel_rfl
theorem aWG:Tryz.prog.leadsTo Tryz.f730 = [758,759,760,761,762]:=by kernel_rfl
theorem bIf:inP Tryz.f730=true:=by kernel_rfl
theorem aWH:Tryz.prog.leadsTo Tryz.f731 = [763,758,764,765,760]:=by kernel_rfl
theorem bIg:inP Tryz.f731=true:=by kernel_rfl
theorem aWI:Tryz.prog.leadsTo Tryz.f732 = []:=by kernel_rfl
theorem bIh:inP Tryz.f732=false:=by kernel_rfl
theorem aWJ:Tryz.prog.leadsTo Tryz.f733 = [766,767,768]:=by kernel_rfl
theorem bIi:inP Tryz.f733=false:=by kernel_rfl
theorem aWK:Tryz.prog.leadsTo Tryz.f734 = [735]:=by kernel_rfl
theorem bIj:inP Tryz.f734=false:=by kernel_rfl
theorem aWL:Tryz.prog.leadsTo Tryz.f735 = []:=by kernel_rfl
theorem bIk:inP Tryz.f735=false:=by kernel_rfl
theorem aWM:Tryz.prog.leadsTo Tryz.f736 = []:=by kernel_rfl
theorem bIl:inP Tryz.f736=true:=by kernel_rfl
theorem aWN:Tryz.prog.leadsTo Tryz.f737 = [743]:=by kernel_rfl
theorem bIm:inP Tryz.f737=false:=by kernel_rfl
theorem aWO:Tryz.prog.leadsTo Tryz.f738 = [769,769]:=by kernel_rfl
theorem bIn:inP Tryz.f738=false:=by kernel_rfl
theorem aWP:Tryz.prog.leadsTo Tryz.f739 = [672,673]:=by kernel_rfl
theorem bIo:inP Tryz.f739=false:=by kernel_rfl
theorem aWQ:Tryz.prog.leadsTo Tryz.f740 = [770,770,770,771]:=by kernel_rfl
theorem bIp:inP Tryz.f740=false:=by kernel_rfl
theorem aWR:Tryz.prog.leadsTo Tryz.f741 = []:=by kernel_rfl
theorem bIq:inP Tryz.f741=false:=by kernel_rfl
theorem aWS:Tryz.prog.leadsTo Tryz.f742 = [743,743,743]:=by kernel_rfl
theorem bIr:inP Tryz.f742=false:=by kernel_rfl
theorem aWT:Tryz.prog.leadsTo Tryz.f743 = [772,772]:=by kernel_rfl
theorem bIs:inP Tryz.f743=false:=by kernel_rfl
theorem aWU:Tryz.prog.leadsTo Tryz.f744 = [743,743]:=by kernel_rfl
theorem bIt:inP Tryz.f744=false:=by kernel_rfl
theorem aWV:Tryz.prog.leadsTo Tryz.f745 = [743,743,743,743]:=by kernel_rfl
theorem bIu:inP Tryz.f745=false:=by kernel_rfl
theorem aWW:Tryz.prog.leadsTo Tryz.f746 = [752]:=by kernel_rfl
theorem bIv:inP Tryz.f746=false:=by kernel_rfl
theorem aWX:Tryz.prog.leadsTo Tryz.f747 = [773,773]:=by kernel_rfl
theorem bIw:inP Tryz.f747=false:=by kernel_rfl
theorem aWY:Tryz.prog.leadsTo Tryz.f748 = [672,673]:=by kernel_rfl
theorem bIx:inP Tryz.f748=false:=by kernel_rfl
theorem aWZ:Tryz.prog.leadsTo Tryz.f749 = [774,774,774,775]:=by kernel_rfl
theorem bIy:inP Tryz.f749=false:=by kernel_rfl
theorem aW0:Tryz.prog.leadsTo Tryz.f750 = []:=by kernel_rfl
theorem bIz:inP Tryz.f750=false:=by kernel_rfl
theorem aW1:Tryz.prog.leadsTo Tryz.f751 = [752,752,752]:=by kernel_rfl
theorem bIA:inP Tryz.f751=false:=by kernel_rfl
theorem aW2:Tryz.prog.leadsTo Tryz.f752 = [696,696]:=by kernel_rfl
theorem bIB:inP Tryz.f752=false:=by kernel_rfl
theorem aW3:Tryz.prog.leadsTo Tryz.f753 = [752,752]:=by kernel_rfl
theorem bIC:inP Tryz.f753=false:=by kernel_rfl
theorem aW4:Tryz.prog.leadsTo Tryz.f754 = [752,752,752,752]:=by kernel_rfl
theorem bID:inP Tryz.f754=false:=by kernel_rfl
theorem aW5:Tryz.prog.leadsTo Tryz.f755 = [631,35,86,39,38]:=by kernel_rfl
theorem bIE:inP Tryz.f755=false:=by kernel_rfl
theorem aW6:Tryz.prog.leadsTo Tryz.f756 = [399,303,584,509,584,303,584,723,724,585,577,587]:=by kernel_rfl
theorem bIF:inP Tryz.f756=false:=by kernel_rfl
theorem aW7:Tryz.prog.leadsTo Tryz.f757 = []:=by kernel_rfl
theorem bIG:inP Tryz.f757=false:=by kernel_rfl
theorem aW8:Tryz.prog.leadsTo Tryz.f758 = []:=by kernel_rfl
theorem bIH:inP Tryz.f758=true:=by kernel_rfl
theorem aW9:Tryz.prog.leadsTo Tryz.f759 = []:=by kernel_rfl
theorem bII:inP Tryz.f759=true:=by kernel_rfl
theorem aXa:Tryz.prog.leadsTo Tryz.f760 = []:=by kernel_rfl
theorem bIJ:inP Tryz.f760=true:=by kernel_rfl
theorem aXb:Tryz.prog.leadsTo Tryz.f761 = []:=by kernel_rfl
theorem bIK:inP Tryz.f761=true:=by kernel_rfl
theorem aXc:Tryz.prog.leadsTo Tryz.f762 = [776,759,777,778,759,779,780,779,778,764,760,761]:=by kernel_rfl
theorem bIL:inP Tryz.f762=true:=by kernel_rfl
theorem aXd:Tryz.prog.leadsTo Tryz.f763 = []:=by kernel_rfl
theorem bIM:inP Tryz.f763=true:=by kernel_rfl
theorem aXe:Tryz.prog.leadsTo Tryz.f764 = []:=by kernel_rfl
theorem bIN:inP Tryz.f764=true:=by kernel_rfl
theorem aXf:Tryz.prog.leadsTo Tryz.f765 = [781,759,782,782]:=by kernel_rfl
theorem bIO:inP Tryz.f765=true:=by kernel_rfl
theorem aXg:Tryz.prog.leadsTo Tryz.f766 = [783]:=by kernel_rfl
theorem bIP:inP Tryz.f766=false:=by kernel_rfl
theorem aXh:Tryz.prog.leadsTo Tryz.f767 = [784]:=by kernel_rfl
theorem bIQ:inP Tryz.f767=false:=by kernel_rfl
theorem aXi:Tryz.prog.leadsTo Tryz.f768 = [785]:=by kernel_rfl
theorem bIR:inP Tryz.f768=false:=by kernel_rfl
theorem aXj:Tryz.prog.leadsTo Tryz.f769 = [743,743]:=by kernel_rfl
theorem bIS:inP Tryz.f769=false:=by kernel_rfl
theorem aXk:Tryz.prog.leadsTo Tryz.f770 = [771]:=by kernel_rfl
theorem bIT:inP Tryz.f770=false:=by kernel_rfl
theorem aXl:Tryz.prog.leadsTo Tryz.f771 = [786,786,786]:=by kernel_rfl
theorem bIU:inP Tryz.f771=false:=by kernel_rfl
theorem aXm:Tryz.prog.leadsTo Tryz.f772 = []:=by kernel_rfl
theorem bIV:inP Tryz.f772=false:=by kernel_rfl
theorem aXn:Tryz.prog.leadsTo Tryz.f773 = [752,752]:=by kernel_rfl
theorem bIW:inP Tryz.f773=false:=by kernel_rfl
theorem aXo:Tryz.prog.leadsTo Tryz.f774 = [775]:=by kernel_rfl
theorem bIX:inP Tryz.f774=false:=by kernel_rfl
theorem aXp:Tryz.prog.leadsTo Tryz.f775 = [787,787,787]:=by kernel_rfl
theorem bIY:inP Tryz.f775=false:=by kernel_rfl
theorem aXq:Tryz.prog.leadsTo Tryz.f776 = []:=by kernel_rfl
theorem bIZ:inP Tryz.f776=true:=by kernel_rfl
theorem aXr:Tryz.prog.leadsTo Tryz.f777 = []:=by kernel_rfl
theorem bI0:inP Tryz.f777=true:=by kernel_rfl
theorem aXs:Tryz.prog.leadsTo Tryz.f778 = []:=by kernel_rfl
theorem bI1:inP Tryz.f778=true:=by kernel_rfl
theorem aXt:Tryz.prog.leadsTo Tryz.f779 = []:=by kernel_rfl
theorem bI2:inP Tryz.f779=true:=by kernel_rfl
theorem aXu:Tryz.prog.leadsTo Tryz.f780 = []:=by kernel_rfl
theorem bI3:inP Tryz.f780=true:=by kernel_rfl
theorem aXv:Tryz.prog.leadsTo Tryz.f781 = []:=by kernel_rfl
theorem bI4:inP Tryz.f781=true:=by kernel_rfl
theorem aXw:Tryz.prog.leadsTo Tryz.f782 = []:=by kernel_rfl
theorem bI5:inP Tryz.f782=true:=by kernel_rfl
theorem aXx:Tryz.prog.leadsTo Tryz.f783 = []:=by kernel_rfl
theorem bI6:inP Tryz.f783=false:=by kernel_rfl
theorem aXy:Tryz.prog.leadsTo Tryz.f784 = []:=by kernel_rfl
theorem bI7:inP Tryz.f784=true:=by kernel_rfl
theorem aXz:Tryz.prog.leadsTo Tryz.f785 = []:=by kernel_rfl
theorem bI8:inP Tryz.f785=true:=by kernel_rfl
theorem aXA:Tryz.prog.leadsTo Tryz.f786 = [743]:=by kernel_rfl
theorem bI9:inP Tryz.f786=false:=by kernel_rfl
theorem aXB:Tryz.prog.leadsTo Tryz.f787 = [752]:=by kernel_rfl
theorem bJa:inP Tryz.f787=false:=by kernel_rfl
theorem aXC:Tryz.prog.leadsTo Tryz.f788 = []:=by kernel_rfl
theorem bJb:inP Tryz.f788=true:=by kernel_rfl
theorem aXD:Tryz.prog.leadsTo Tryz.f789 = []:=by kernel_rfl
theorem bJc:inP Tryz.f789=true:=by kernel_rfl
theorem aXE:Tryz.prog.leadsTo Tryz.f790 = []:=by kernel_rfl
theorem bJd:inP Tryz.f790=true:=by kernel_rfl
theorem aXF:Tryz.prog.leadsTo Tryz.f791 = []:=by kernel_rfl
theorem bJe:inP Tryz.f791=true:=by kernel_rfl
theorem aXG:Tryz.prog.leadsTo Tryz.f792 = []:=by kernel_rfl
theorem bJf:inP Tryz.f792=true:=by kernel_rfl
theorem aXH:Tryz.prog.leadsTo Tryz.f793 = []:=by kernel_rfl
theorem bJg:inP Tryz.f793=true:=by kernel_rfl
theorem aXI:Tryz.prog.leadsTo Tryz.f794 = []:=by kernel_rfl
theorem bJh:inP Tryz.f794=true:=by kernel_rfl
theorem aXJ:Tryz.prog.leadsTo Tryz.f795 = []:=by kernel_rfl
theorem bJi:inP Tryz.f795=true:=by kernel_rfl
theorem aXK:Tryz.prog.leadsTo Tryz.f796 = []:=by kernel_rfl
theorem bJj:inP Tryz.f796=true:=by kernel_rfl
theorem aXL:Tryz.prog.leadsTo Tryz.f797 = []:=by kernel_rfl
theorem bJk:inP Tryz.f797=true:=by kernel_rfl
theorem aXM:Tryz.prog.leadsTo Tryz.f798 = []:=by kernel_rfl
theorem bJl:inP Tryz.f798=true:=by kernel_rfl
theorem aXN:Tryz.prog.leadsTo Tryz.f799 = []:=by kernel_rfl
theorem bJm:inP Tryz.f799=true:=by kernel_rfl
theorem aXO:Tryz.prog.leadsTo Tryz.f800 = []:=by kernel_rfl
theorem bJn:inP Tryz.f800=true:=by kernel_rfl
theorem aXP:Tryz.prog.leadsTo Tryz.f801 = []:=by kernel_rfl
theorem bJo:inP Tryz.f801=true:=by kernel_rfl
theorem aXQ:Tryz.prog.leadsTo Tryz.f802 = []:=by kernel_rfl
theorem bJp:inP Tryz.f802=true:=by kernel_rfl
theorem aXR:Tryz.prog.leadsTo Tryz.f803 = []:=by kernel_rfl
theorem bJq:inP Tryz.f803=true:=by kernel_rfl
theorem aXS:Tryz.prog.leadsTo Tryz.f804 = []:=by kernel_rfl
theorem bJr:inP Tryz.f804=true:=by kernel_rfl
theorem aXT:Tryz.prog.leadsTo Tryz.f805 = []:=by kernel_rfl
theorem bJs:inP Tryz.f805=true:=by kernel_rfl
theorem aXU:Tryz.prog.leadsTo Tryz.f806 = []:=by kernel_rfl
theorem bJt:inP Tryz.f806=true:=by kernel_rfl
theorem aXV:Tryz.prog.leadsTo Tryz.f807 = []:=by kernel_rfl
theorem bJu:inP Tryz.f807=true:=by kernel_rfl
theorem aXW:Tryz.prog.leadsTo Tryz.f808 = []:=by kernel_rfl
theorem bJv:inP Tryz.f808=true:=by kernel_rfl
theorem aXX:Tryz.prog.leadsTo Tryz.f809 = []:=by kernel_rfl
theorem bJw:inP Tryz.f809=true:=by kernel_rfl
theorem aXY:Tryz.prog.leadsTo Tryz.f810 = []:=by kernel_rfl
theorem bJx:inP Tryz.f810=true:=by kernel_rfl
