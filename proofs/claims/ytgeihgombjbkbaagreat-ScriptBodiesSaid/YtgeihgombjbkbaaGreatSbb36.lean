/- For scbodies_law_holds. -/
import Derived.Test.YtgeihgombjbkbaaGreatProg
import Derived.Test.YtgeihgombjbkbaaGreatSbb33
namespace Go.Proofs.YtgeihgombjbkbaaGreat
open Go Go.Proofs.Rn
noncomputable def aDe:FI:=⟨Tryz.f264,[]⟩
theorem aDf:fnB aDe=true:=by decide +kernel
noncomputable def aDg:FI:=⟨Tryz.f274,[(1,⟨[0,1,3,7,0,16,63],0,(.h [0,1,2,3,4,5] (.o 6 .nil))⟩),(11,⟨[0,1,3,0,15],0,(.h [0,1,2,3] (.o 4 .nil))⟩),(17,⟨[0,1,3,0,0,24,63],0,(.h [0,1,2,3,4,5] (.o 6 .nil))⟩)]⟩
theorem aDh:fnB aDg=true:=by decide +kernel
noncomputable def aDi:FI:=⟨Tryz.f275,[]⟩
theorem aDj:fnB aDi=true:=by decide +kernel
noncomputable def aDk:FI:=⟨Tryz.f278,[]⟩
theorem aDl:fnB aDk=true:=by decide +kernel
noncomputable def aDm:FI:=⟨Tryz.f281,[]⟩
theorem aDn:fnB aDm=true:=by decide +kernel
noncomputable def aDo:FI:=⟨Tryz.f283,[]⟩
theorem aDp:fnB aDo=true:=by decide +kernel
noncomputable def aDq:FI:=⟨Tryz.f284,[(5,⟨[0,1,3,7,0,16,48,112,240,511,1023],0,(.h [0,1,2,3,4,5,6,7,8,9,10] .nil)⟩),(6,⟨[0,1,3,7,0,16,48,112,240,0,512,1536,3584,7680,15872,32752,65535],0,(.h [0,1,2,3,4,5,6,7,8,9,10,11,12,13,14,15,16] .nil)⟩),(11,⟨[0,1,3,7,0,16,48,112,0,256,768,1792,3840,8191,16383],0,(.h [0,1,2,3,4,5,6,7,8,9,10,11,12] (.o 13 (.h [14] .nil)))⟩),(14,⟨[0,1,3,7,0,16,48,112,240,511],0,(.h [0,1,2,3,4,5,6,7,8,9] .nil)⟩)]⟩
theorem aDr:fnB aDq=true:=by decide +kernel
noncomputable def aDs:FI:=⟨Tryz.f285,[(19,⟨[0,1,0,0,8,28,0,64,192,448,1020,0,2048,6144,14336,32764,65535,0,262143],33824,(.h [0,1,2,3,4,6,7,8,9,11,12,13,14] (.w 5 17 (.w 10 17 (.w 15 17 (.h [16] (.o 17 (.o 18 .nil))) (.o 15 (.h [16] (.o 18 .nil)))) (.o 10 (.o 15 (.h [16] (.o 18 .nil))))) (.o 5 (.o 10 (.o 15 (.h [16] (.o 18 .nil)))))))⟩),(20,⟨[0,1,3,7,0,16,63,127,255,255,511,1535,4095,8191],0,(.h [0,1,2,3,4,5] (.o 6 (.h [7,8,9,10] (.o 11 (.h [12] (.o 13 .nil))))))⟩),(21,⟨[0,0,2,6,14,30,0,64,254,511,1023,2047,4095],0,(.h [0,1,2,3,4,5,6] (.o 7 (.o 8 (.h [9,10,11] (.o 12 .nil)))))⟩),(26,⟨[0,0,2,6,14,30,0,64,0,0,512,1792,4032,8128,16382,32767,65535,131071,262143],6144,(.h [0,1,2,3,4,5,6,7,8,9,10] (.o 11 (.h [12] (.o 13 (.o 14 (.h [15,16,17] (.o 18 .nil)))))))⟩),(28,⟨[0,1,3,7,15,31,15,79,15,271,783,1807,3855,7951,16335,32767,65535],0,(.h [0,1,2,3,4,5,6,7,8,9,10,11,12,13,14,15,16] .nil)⟩),(29,⟨[0,1,3,7,0,16,48,112,240,511],256,(.h [0,1,2,3,4,5,6,7] (.o 8 (.o 9 .nil)))⟩)]⟩
theorem aDt:fnB aDs=true:=by decide +kernel
noncomputable def aDu:FI:=⟨Tryz.f286,[]⟩
theorem aDv:fnB aDu=true:=by decide +kernel
noncomputable def aDw:FI:=⟨Tryz.f288,[]⟩
theorem aDx:fnB aDw=true:=by decide +kernel
noncomputable def aDy:FI:=⟨Tryz.f298,[]⟩
theorem aDz:fnB aDy=true:=by decide +kernel
noncomputable def aDA:FI:=⟨Tryz.f300,[]⟩
theorem aDB:fnB aDA=true:=by decide +kernel
noncomputable def aDC:FI:=⟨Tryz.f301,[]⟩
theorem aDD:fnB aDC=true:=by decide +kernel
noncomputable def aDE:FI:=⟨Tryz.f302,[]⟩
theorem aDF:fnB aDE=true:=by decide +kernel
noncomputable def aDG:FI:=⟨Tryz.f303,[(3,⟨[0,1,3,7,0,16,48,112,240,496,1023,2047],0,(.h [0,1,2,3,4,5,6,7,8,9,10,11] .nil)⟩)]⟩
theorem aDH:fnB aDG=true:=by decide +kernel
noncomputable def aDI:FI:=⟨Tryz.f304,[]⟩
theorem aDJ:fnB aDI=true:=by decide +kernel
noncomputable def aDK:FI:=⟨Tryz.f308,[]⟩
theorem aDL:fnB aDK=true:=by decide +kernel
noncomputable def aDM:FI:=⟨Tryz.f309,[(8,⟨[0,1,3,7,0,31],0,(.h [0,1,2,3,4] (.o 5 .nil))⟩)]⟩
theorem aDN:fnB aDM=true:=by decide +kernel
noncomputable def aDO:FI:=⟨Tryz.f310,[(3,⟨[0,1,3,7,15,0,32,96,224,0,512,1536,3584,7711,16383,32767],8208,(.h [0,1,2,3,5,6,7,8,9,10,11,12] (.o 4 (.o 13 (.h [14] (.o 15 .nil)))))⟩)]⟩
theorem aDP:fnB aDO=true:=by decide +kernel
noncomputable def aDQ:FI:=⟨Tryz.f311,[]⟩
theorem aDR:fnB aDQ=true:=by decide +kernel
noncomputable def aDS:FI:=⟨Tryz.f312,[]⟩
theorem aDT:fnB aDS=true:=by decide +kernel
noncomputable def aDU:FI:=⟨Tryz.f314,[]⟩
theorem aDV:fnB aDU=true:=by decide +kernel
noncomputable def aDW:FI:=⟨Tryz.f315,[]⟩
theorem aDX:fnB aDW=true:=by decide +kernel
noncomputable def aDY:FI:=⟨Tryz.f339,[(6,⟨[0,0,3,7,0,0,48,112,255],0,(.h [0,1,2,3,4,5,6,7,8] .nil)⟩)]⟩
theorem aDZ:fnB aDY=true:=by decide +kernel
noncomputable def aD0:FI:=⟨Tryz.f340,[]⟩
theorem aD1:fnB aD0=true:=by decide +kernel
noncomputable def aD2:FI:=⟨Tryz.f345,[(13,⟨[0,1,3,7,15,0,32,127,255,511,511,0,3071,8191],0,(.h [0,1,2,3,4,5,6] (.w 7 11 (.h [8,9,10] (.o 11 (.o 12 (.h [13] .nil)))) (.o 7 (.h [8,9,10] (.o 12 (.h [13] .nil))))))⟩),(15,⟨[0,1,3,7,15,0,32,127,255],0,(.h [0,1,2,3,4,5,6] (.o 7 (.h [8] .nil)))⟩)]⟩
theorem aD3:fnB aD2=true:=by decide +kernel
noncomputable def aD4:FI:=⟨Tryz.f346,[(1,⟨[0,1,3,7,0,16,48,112,240,511,1023,2047,2047,4095,16383],256,(.h [0,1,2,3,4,5,6,7] (.o 8 (.o 9 (.h [10,11,12,13,14] .nil))))⟩)]⟩
theorem aD5:fnB aD4=true:=by decide +kernel
noncomputable def aD6:FI:=⟨Tryz.f347,[]⟩
theorem aD7:fnB aD6=true:=by decide +kernel
noncomputable def aD8:FI:=⟨Tryz.f348,[]⟩
theorem aD9:fnB aD8=true:=by decide +kernel
noncomputable def aEa:FI:=⟨Tryz.f349,[]⟩
theorem aEb:fnB aEa=true:=by decide +kernel
noncomputable def aEc:FI:=⟨Tryz.f350,[]⟩
theorem aEd:fnB aEc=true:=by decide +kernel
noncomputable def aEe:FI:=⟨Tryz.f360,[]⟩
theorem aEf:fnB aEe=true:=by decide +kernel
noncomputable def aEg:FI:=⟨Tryz.f362,[(8,⟨[0,1,3,7,7,31,63,127,255,511,1023,2047,4095,255,8447,24831,57599,131071,262143],130816,(.h [0,1,2,3,4] (.o 5 (.h [6,7,8,9,10,11,12,13,14,15,16,17,18] .nil)))⟩),(9,⟨[0,0,2,6,14,0,32,126,255,511,1023],0,(.h [0,1,2,3,4,5] (.o 6 (.o 7 (.h [8,9] (.o 10 .nil)))))⟩)]⟩
theorem aEh:fnB aEg=true:=by decide +kernel
noncomputable def aEi:FI:=⟨Tryz.f366,[]⟩
theorem aEj:fnB aEi=true:=by decide +kernel
noncomputable def aEk:FI:=⟨Tryz.f371,[]⟩
theorem aEl:fnB aEk=true:=by decide +kernel
noncomputable def aEm:FI:=⟨Tryz.f372,[(1,⟨[0,1,3,7,0,16,48,112,240,511,1023,2047,4095,8191,16383,2047,34815,100351,231423,524287,1048575,2097151],522240,(.h [0,1,2,3,4,5,6,7,8] (.o 9 (.h [10,11,12,13,14,15,16,17,18,19,20,21] .nil)))⟩)]⟩
theorem aEn:fnB aEm=true:=by decide +kernel
noncomputable def aEo:FI:=⟨Tryz.f373,[(7,⟨[0,0,0,4,12,0,32,96,224,492,0,2028,4092,8191],2584,(.h [0,1,2,5,6,7,8,10] (.o 3 (.h [4] (.o 9 (.o 11 (.h [12] (.o 13 .nil)))))))⟩)]⟩
theorem aEp:fnB aEo=true:=by decide +kernel
noncomputable def aEq:FI:=⟨Tryz.f376,[]⟩
theorem aEr:fnB aEq=true:=by decide +kernel
noncomputable def aEs:FI:=⟨Tryz.f377,[]⟩
theorem aEt:fnB aEs=true:=by decide +kernel
noncomputable def aEu:FI:=⟨Tryz.f378,[]⟩
theorem aEv:fnB aEu=true:=by decide +kernel
noncomputable def aEw:FI:=⟨Tryz.f380,[(3,⟨[0,1,3,7,0,16,63,127],0,(.h [0,1,2,3,4,5] (.o 6 (.o 7 .nil)))⟩),(4,⟨[0,0,2,6,14,30,0,64,0,256,960,1984,4094,8191,16383,32767,65535],0,(.h [0,1,2,3,4,5,6,7,8,9,10] (.o 11 (.o 12 (.h [13,14,15] (.o 16 .nil)))))⟩),(6,⟨[0,0,2,6,14,30,0,64,192,510,1023,2047,4095,8191],0,(.h [0,1,2,3,4,5,6,7] (.o 8 (.o 9 (.h [10,11,12] (.o 13 .nil)))))⟩)]⟩
theorem aEx:fnB aEw=true:=by decide +kernel
noncomputable def aEy:FI:=⟨Tryz.f385,[(3,⟨[0,1,3,7,0,16,63,127],32,(.h [0,1,2,3,4] (.o 5 (.o 6 (.h [7] .nil))))⟩)]⟩
theorem aEz:fnB aEy=true:=by decide +kernel
noncomputable def aEA:FI:=⟨Tryz.f397,[]⟩
theorem aEB:fnB aEA=true:=by decide +kernel
noncomputable def aEC:FI:=⟨Tryz.f398,[]⟩
theorem aED:fnB aEC=true:=by decide +kernel
noncomputable def aEE:FI:=⟨Tryz.f399,[]⟩
theorem aEF:fnB aEE=true:=by decide +kernel
noncomputable def aEG:FI:=⟨Tryz.f400,[(10,⟨[0,1,3,7,15,7,39,127,255,7,1023,2047,4095],0,(.h [0,1,2,3,4,5,6,7,8,9] (.o 10 (.h [11,12] .nil)))⟩)]⟩
theorem aEH:fnB aEG=true:=by decide +kernel
noncomputable def aEI:FI:=⟨Tryz.f402,[]⟩
theorem aEJ:fnB aEI=true:=by decide +kernel
noncomputable def aEK:FI:=⟨Tryz.f403,[]⟩
theorem aEL:fnB aEK=true:=by decide +kernel
noncomputable def aEM:FI:=⟨Tryz.f425,[]⟩
theorem aEN:fnB aEM=true:=by decide +kernel
noncomputable def aEO:FI:=⟨Tryz.f426,[]⟩
theorem aEP:fnB aEO=true:=by decide +kernel
noncomputable def aEQ:FI:=⟨Tryz.f427,[]⟩
theorem aER:fnB aEQ=true:=by decide +kernel
noncomputable def aES:FI:=⟨Tryz.f428,[(3,⟨[0,1,3,7,0,0,32,96,224,496,1008,0,0,4096,12288,28672,63488,131071,262143,524287,1048575,2097151,4194303],0,(.h [0,1,2,3,4,5,6,7,8,9,10,11,12,13,14,15,16,17] (.o 18 (.h [19,20] (.o 21 (.h [22] .nil)))))⟩)]⟩
theorem aET:fnB aES=true:=by decide +kernel
noncomputable def aEU:FI:=⟨Tryz.f429,[]⟩
theorem aEV:fnB aEU=true:=by decide +kernel
noncomputable def aEW:FI:=⟨Tryz.f430,[]⟩
theorem aEX:fnB aEW=true:=by decide +kernel
noncomputable def aEY:FI:=⟨Tryz.f431,[]⟩
theorem aEZ:fnB aEY=true:=by decide +kernel
noncomputable def aE0:FI:=⟨Tryz.f432,[]⟩
theorem aE1:fnB aE0=true:=by decide +kernel
noncomputable def aE2:FI:=⟨Tryz.f433,[]⟩
theorem aE3:fnB aE2=true:=by decide +kernel
noncomputable def aE4:FI:=⟨Tryz.f444,[]⟩
theorem aE5:fnB aE4=true:=by decide +kernel
noncomputable def aE6:FI:=⟨Tryz.f446,[]⟩
theorem aE7:fnB aE6=true:=by decide +kernel
noncomputable def aE8:FI:=⟨Tryz.f449,[]⟩
theorem aE9:fnB aE8=true:=by decide +kernel
noncomputable def aFa:FI:=⟨Tryz.f450,[]⟩
theorem aFb:fnB aFa=true:=by decide +kernel
noncomputable def aFc:FI:=⟨Tryz.f454,[]⟩
theorem aFd:fnB aFc=true:=by decide +kernel
noncomputable def aFe:FI:=⟨Tryz.f459,[(2,⟨[0,1,3,7,0,16,48,112,240,511],0,(.h [0,1,2,3,4,5,6,7,8] (.o 9 .nil))⟩)]⟩
theorem aFf:fnB aFe=true:=by decide +kernel
noncomputable def aFg:FI:=⟨Tryz.f460,[(0,⟨[0,1,3,7,15,15,47,111,239,15,527,1551,15,4111,12303,28687,61455,130575,262127,524287,1048575,2097151],524272,(.h [0] (.o 1 (.h [2,3,4,5,6,7,8,9,12,13,14,15,16] (.o 10 (.h [11,17] (.o 18 (.o 19 (.h [20,21] .nil))))))))⟩)]⟩
theorem aFh:fnB aFg=true:=by decide +kernel
noncomputable def aFi:FI:=⟨Tryz.f464,[]⟩
theorem aFj:fnB aFi=true:=by decide +kernel
noncomputable def aFk:FI:=⟨Tryz.f466,[]⟩
theorem aFl:fnB aFk=true:=by decide +kernel
noncomputable def aFm:FI:=⟨Tryz.f469,[]⟩
theorem aFn:fnB aFm=true:=by decide +kernel
noncomputable def aFo:FI:=⟨Tryz.f474,[]⟩
theorem aFp:fnB aFo=true:=by decide +kernel
noncomputable def aFq:FI:=⟨Tryz.f475,[]⟩
theorem aFr:fnB aFq=true:=by decide +kernel
noncomputable def aFs:FI:=⟨Tryz.f477,[]⟩
theorem aFt:fnB aFs=true:=by decide +kernel
noncomputable def aFu:FI:=⟨Tryz.f483,[]⟩
theorem aFv:fnB aFu=true:=by decide +kernel
noncomputable def aFw:FI:=⟨Tryz.f485,[]⟩
theorem aFx:fnB aFw=true:=by decide +kernel
noncomputable def aFy:FI:=⟨Tryz.f486,[]⟩
theorem aFz:fnB aFy=true:=by decide +kernel
noncomputable def aFA:FI:=⟨Tryz.f501,[]⟩
theorem aFB:fnB aFA=true:=by decide +kernel
noncomputable def aFC:FI:=⟨Tryz.f502,[(11,⟨[0,0,2,7,15],4,(.h [0,1] (.o 2 (.o 3 (.h [4] .nil))))⟩)]⟩
theorem aFD:fnB aFC=true:=by decide +kernel
noncomputable def aFE:FI:=⟨Tryz.f503,[]⟩
theorem aFF:fnB aFE=true:=by decide +kernel
noncomputable def aFG:FI:=⟨Tryz.f504,[]⟩
theorem aFH:fnB aFG=true:=by decide +kernel
noncomputable def aFI:FI:=⟨Tryz.f506,[]⟩
theorem aFJ:fnB aFI=true:=by decide +kernel
noncomputable def aFK:FI:=⟨Tryz.f507,[(4,⟨[0,1,3,7,0,16,48,112,255,511,1023,1023,2047,8191],128,(.h [0,1,2,3,4,5,6] (.o 7 (.o 8 (.h [9,10,11,12,13] .nil))))⟩),(6,⟨[0,1,3,7,0,16,48,112,0,256,768,1792,4095,8191],128,(.h [0,1,2,3,4,5,6,8,9,10,11] (.o 7 (.o 12 (.h [13] .nil))))⟩),(9,⟨[0,1,3,7,0,16,48,112,255,511],128,(.h [0,1,2,3,4,5,6] (.o 7 (.o 8 (.h [9] .nil))))⟩)]⟩
theorem aFL:fnB aFK=true:=by decide +kernel
noncomputable def aFM:FI:=⟨Tryz.f508,[]⟩
theorem aFN:fnB aFM=true:=by decide +kernel
noncomputable def aFO:FI:=⟨Tryz.f510,[]⟩
theorem aFP:fnB aFO=true:=by decide +kernel
noncomputable def aFQ:FI:=⟨Tryz.f511,[]⟩
theorem aFR:fnB aFQ=true:=by decide +kernel
noncomputable def aFS:FI:=⟨Tryz.f512,[]⟩
theorem aFT:fnB aFS=true:=by decide +kernel
noncomputable def aFU:FI:=⟨Tryz.f513,[]⟩
theorem aFV:fnB aFU=true:=by decide +kernel
noncomputable def aFW:FI:=⟨Tryz.f514,[]⟩
theorem aFX:fnB aFW=true:=by decide +kernel
noncomputable def aFY:FI:=⟨Tryz.f518,[]⟩
theorem aFZ:fnB aFY=true:=by decide +kernel
noncomputable def aF0:FI:=⟨Tryz.f521,[]⟩
theorem aF1:fnB aF0=true:=by decide +kernel
noncomputable def aF2:FI:=⟨Tryz.f522,[]⟩
theorem aF3:fnB aF2=true:=by decide +kernel
noncomputable def aF4:FI:=⟨Tryz.f524,[]⟩
theorem aF5:fnB aF4=true:=by decide +kernel
noncomputable def aF6:FI:=⟨Tryz.f525,[]⟩
theorem aF7:fnB aF6=true:=by decide +kernel
noncomputable def aF8:FI:=⟨Tryz.f526,[(1,⟨[0,0,2,6,14,0,32,0,0,480,992,2046,4095,8191],576,(.h [0,1,2,3,4,5,7,8] (.o 6 (.h [9] (.o 10 (.o 11 (.o 12 (.h [13] .nil)))))))⟩)]⟩
theorem aF9:fnB aF8=true:=by decide +kernel
noncomputable def aGa:FI:=⟨Tryz.f527,[(1,⟨[0,1,3,7,0,16,48,112,0,256,768,1792,3840,0,8192,24576,57344,122880,262143,524287],131072,(.h [0,1,2,3,4,5,6,7,8,9,10,11,12,13,14,15,16] (.o 17 (.o 18 (.h [19] .nil))))⟩)]⟩
theorem aGb:fnB aGa=true:=by decide +kernel
noncomputable def aGc:FI:=⟨Tryz.f532,[]⟩
theorem aGd:fnB aGc=true:=by decide +kernel
noncomputable def aGe:FI:=⟨Tryz.f533,[]⟩
theorem aGf:fnB aGe=true:=by decide +kernel
noncomputable def aGg:FI:=⟨Tryz.f534,[]⟩
theorem aGh:fnB aGg=true:=by decide +kernel
noncomputable def aGi:FI:=⟨Tryz.f535,[(6,⟨[0,1,3,7,15,0,32,96,255,0,1023,2047],192,(.h [0,1,2,3,4,5,9] (.o 6 (.h [7,8,10,11] .nil)))⟩)]⟩
theorem aGj:fnB aGi=true:=by decide +kernel
noncomputable def aGk:FI:=⟨Tryz.f536,[(4,⟨[0,0,2,6,14,30,0,126,255,511],0,(.h [0,1,2,3,4,5,6] (.o 7 (.o 8 (.h [9] .nil))))⟩)]⟩
theorem aGl:fnB aGk=true:=by decide +kernel
noncomputable def aGm:FI:=⟨Tryz.f537,[(1,⟨[0,0,0,4,0,16,48,112,252,508,1020,2045,4093,8189,16383,32767,65535],8,(.h [0,1,2,4,5,6,7] (.o 3 (.o 8 (.o 9 (.o 10 (.h [11,12] (.o 13 (.h [14,15] (.o 16 .nil)))))))))⟩)]⟩
theorem aGn:fnB aGm=true:=by decide +kernel
noncomputable def aGo:FI:=⟨Tryz.f538,[]⟩
theorem aGp:fnB aGo=true:=by decide +kernel
noncomputable def aGq:FI:=⟨Tryz.f541,[]⟩
theorem aGr:fnB aGq=true:=by decide +kernel
noncomputable def aGs:FI:=⟨Tryz.f549,[]⟩
theorem aGt:fnB aGs=true:=by decide +kernel
noncomputable def aGu:FI:=⟨Tryz.f564,[]⟩
theorem aGv:fnB aGu=true:=by decide +kernel
noncomputable def aGw:FI:=⟨Tryz.f566,[]⟩
theorem aGx:fnB aGw=true:=by decide +kernel
noncomputable def aGy:FI:=⟨Tryz.f575,[]⟩
theorem aGz:fnB aGy=true:=by decide +kernel
noncomputable def aGA:FI:=⟨Tryz.f578,[(8,⟨[0,1,3,7,0,0,63],0,(.h [0,1,2,3,4,5] (.o 6 .nil))⟩)]⟩
theorem aGB:fnB aGA=true:=by decide +kernel
noncomputable def aGC:FI:=⟨Tryz.f579,[]⟩
theorem aGD:fnB aGC=true:=by decide +kernel
noncomputable def aGE:FI:=⟨Tryz.f580,[]⟩
theorem aGF:fnB aGE=true:=by decide +kernel
noncomputable def aGG:FI:=⟨Tryz.f584,[(3,⟨[0,1,3,7,0,16,48,112,240,496,1023,2047],0,(.h [0,1,2,3,4,5,6,7,8,9,10,11] .nil)⟩)]⟩
theorem aGH:fnB aGG=true:=by decide +kernel
noncomputable def aGI:FI:=⟨Tryz.f585,[]⟩
theorem aGJ:fnB aGI=true:=by decide +kernel
noncomputable def aGK:FI:=⟨Tryz.f586,[]⟩
theorem aGL:fnB aGK=true:=by decide +kernel
