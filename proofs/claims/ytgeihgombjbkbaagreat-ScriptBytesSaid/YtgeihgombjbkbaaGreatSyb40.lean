/- For scbytes_law_holds. -/
import Derived.Test.YtgeihgombjbkbaaGreatProg
import Derived.Test.YtgeihgombjbkbaaGreatSyb37
namespace Go.Proofs.YtgeihgombjbkbaaGreat
open Go Go.Proofs.Rn
noncomputable def aC3:FI:=⟨Tryz.f264,[]⟩
theorem aC4:fnB aC3=true:=by decide +kernel
noncomputable def aC5:FI:=⟨Tryz.f274,[(1,⟨[0,1,3,7,0,16,63],0,(.h [0,1,2,3,4,5] (.o 6 .nil))⟩),(11,⟨[0,1,3,0,15],0,(.h [0,1,2,3] (.o 4 .nil))⟩),(17,⟨[0,1,3,0,0,24,63],0,(.h [0,1,2,3,4,5] (.o 6 .nil))⟩)]⟩
theorem aC6:fnB aC5=true:=by decide +kernel
noncomputable def aC7:FI:=⟨Tryz.f275,[]⟩
theorem aC8:fnB aC7=true:=by decide +kernel
noncomputable def aC9:FI:=⟨Tryz.f278,[]⟩
theorem aDa:fnB aC9=true:=by decide +kernel
noncomputable def aDb:FI:=⟨Tryz.f281,[]⟩
theorem aDc:fnB aDb=true:=by decide +kernel
noncomputable def aDd:FI:=⟨Tryz.f283,[]⟩
theorem aDe:fnB aDd=true:=by decide +kernel
noncomputable def aDf:FI:=⟨Tryz.f284,[(5,⟨[0,1,3,7,0,16,48,112,240,511,1023],0,(.h [0,1,2,3,4,5,6,7,8,9,10] .nil)⟩),(6,⟨[0,1,3,7,0,16,48,112,240,0,512,1536,3584,7680,15872,32752,65535],0,(.h [0,1,2,3,4,5,6,7,8,9,10,11,12,13,14,15,16] .nil)⟩),(11,⟨[0,1,3,7,0,16,48,112,0,256,768,1792,3840,8191,16383],0,(.h [0,1,2,3,4,5,6,7,8,9,10,11,12] (.o 13 (.h [14] .nil)))⟩),(14,⟨[0,1,3,7,0,16,48,112,240,511],0,(.h [0,1,2,3,4,5,6,7,8,9] .nil)⟩)]⟩
theorem aDg:fnB aDf=true:=by decide +kernel
noncomputable def aDh:FI:=⟨Tryz.f285,[(19,⟨[0,1,0,0,8,28,0,64,192,448,1020,0,2048,6144,14336,32764,65535,0,262143],33824,(.h [0,1,2,3,4,6,7,8,9,11,12,13,14] (.w 5 17 (.w 10 17 (.w 15 17 (.h [16] (.o 17 (.o 18 .nil))) (.o 15 (.h [16] (.o 18 .nil)))) (.o 10 (.o 15 (.h [16] (.o 18 .nil))))) (.o 5 (.o 10 (.o 15 (.h [16] (.o 18 .nil)))))))⟩),(20,⟨[0,1,3,7,0,16,63,127,255,255,511,1535,4095,8191],0,(.h [0,1,2,3,4,5] (.o 6 (.h [7,8,9,10] (.o 11 (.h [12] (.o 13 .nil))))))⟩),(21,⟨[0,0,2,6,14,30,0,64,254,511,1023,2047,4095],0,(.h [0,1,2,3,4,5,6] (.o 7 (.o 8 (.h [9,10,11] (.o 12 .nil)))))⟩),(26,⟨[0,0,2,6,14,30,0,64,0,0,512,1792,4032,8128,16382,32767,65535,131071,262143],6144,(.h [0,1,2,3,4,5,6,7,8,9,10] (.o 11 (.h [12] (.o 13 (.o 14 (.h [15,16,17] (.o 18 .nil)))))))⟩),(28,⟨[0,1,3,7,15,31,15,79,15,271,783,1807,3855,7951,16335,32767,65535],0,(.h [0,1,2,3,4,5,6,7,8,9,10,11,12,13,14,15,16] .nil)⟩),(29,⟨[0,1,3,7,0,16,48,112,240,511],256,(.h [0,1,2,3,4,5,6,7] (.o 8 (.o 9 .nil)))⟩)]⟩
theorem aDi:fnB aDh=true:=by decide +kernel
noncomputable def aDj:FI:=⟨Tryz.f286,[]⟩
theorem aDk:fnB aDj=true:=by decide +kernel
noncomputable def aDl:FI:=⟨Tryz.f288,[]⟩
theorem aDm:fnB aDl=true:=by decide +kernel
noncomputable def aDn:FI:=⟨Tryz.f298,[]⟩
theorem aDo:fnB aDn=true:=by decide +kernel
noncomputable def aDp:FI:=⟨Tryz.f300,[]⟩
theorem aDq:fnB aDp=true:=by decide +kernel
noncomputable def aDr:FI:=⟨Tryz.f301,[]⟩
theorem aDs:fnB aDr=true:=by decide +kernel
noncomputable def aDt:FI:=⟨Tryz.f302,[]⟩
theorem aDu:fnB aDt=true:=by decide +kernel
noncomputable def aDv:FI:=⟨Tryz.f303,[(3,⟨[0,1,3,7,0,16,48,112,240,496,1023,2047],0,(.h [0,1,2,3,4,5,6,7,8,9,10,11] .nil)⟩)]⟩
theorem aDw:fnB aDv=true:=by decide +kernel
noncomputable def aDx:FI:=⟨Tryz.f304,[]⟩
theorem aDy:fnB aDx=true:=by decide +kernel
noncomputable def aDz:FI:=⟨Tryz.f308,[]⟩
theorem aDA:fnB aDz=true:=by decide +kernel
noncomputable def aDB:FI:=⟨Tryz.f309,[(8,⟨[0,1,3,7,0,31],0,(.h [0,1,2,3,4] (.o 5 .nil))⟩)]⟩
theorem aDC:fnB aDB=true:=by decide +kernel
noncomputable def aDD:FI:=⟨Tryz.f310,[(3,⟨[0,1,3,7,15,0,32,96,224,0,512,1536,3584,7711,16383,32767],8208,(.h [0,1,2,3,5,6,7,8,9,10,11,12] (.o 4 (.o 13 (.h [14] (.o 15 .nil)))))⟩)]⟩
theorem aDE:fnB aDD=true:=by decide +kernel
noncomputable def aDF:FI:=⟨Tryz.f311,[]⟩
theorem aDG:fnB aDF=true:=by decide +kernel
noncomputable def aDH:FI:=⟨Tryz.f312,[]⟩
theorem aDI:fnB aDH=true:=by decide +kernel
noncomputable def aDJ:FI:=⟨Tryz.f314,[]⟩
theorem aDK:fnB aDJ=true:=by decide +kernel
noncomputable def aDL:FI:=⟨Tryz.f315,[]⟩
theorem aDM:fnB aDL=true:=by decide +kernel
noncomputable def aDN:FI:=⟨Tryz.f339,[(6,⟨[0,0,3,7,0,0,48,112,255],0,(.h [0,1,2,3,4,5,6,7,8] .nil)⟩)]⟩
theorem aDO:fnB aDN=true:=by decide +kernel
noncomputable def aDP:FI:=⟨Tryz.f340,[]⟩
theorem aDQ:fnB aDP=true:=by decide +kernel
noncomputable def aDR:FI:=⟨Tryz.f345,[(13,⟨[0,1,3,7,15,0,32,127,255,511,511,0,3071,8191],0,(.h [0,1,2,3,4,5,6] (.w 7 11 (.h [8,9,10] (.o 11 (.o 12 (.h [13] .nil)))) (.o 7 (.h [8,9,10] (.o 12 (.h [13] .nil))))))⟩),(15,⟨[0,1,3,7,15,0,32,127,255],0,(.h [0,1,2,3,4,5,6] (.o 7 (.h [8] .nil)))⟩)]⟩
theorem aDS:fnB aDR=true:=by decide +kernel
noncomputable def aDT:FI:=⟨Tryz.f346,[(1,⟨[0,1,3,7,0,16,48,112,240,511,1023,2047,2047,4095,16383],256,(.h [0,1,2,3,4,5,6,7] (.o 8 (.o 9 (.h [10,11,12,13,14] .nil))))⟩)]⟩
theorem aDU:fnB aDT=true:=by decide +kernel
noncomputable def aDV:FI:=⟨Tryz.f347,[]⟩
theorem aDW:fnB aDV=true:=by decide +kernel
noncomputable def aDX:FI:=⟨Tryz.f348,[]⟩
theorem aDY:fnB aDX=true:=by decide +kernel
noncomputable def aDZ:FI:=⟨Tryz.f349,[]⟩
theorem aD0:fnB aDZ=true:=by decide +kernel
noncomputable def aD1:FI:=⟨Tryz.f350,[]⟩
theorem aD2:fnB aD1=true:=by decide +kernel
noncomputable def aD3:FI:=⟨Tryz.f360,[]⟩
theorem aD4:fnB aD3=true:=by decide +kernel
noncomputable def aD5:FI:=⟨Tryz.f362,[(8,⟨[0,1,3,7,7,31,63,127,255,511,1023,2047,4095,255,8447,24831,57599,131071,262143],130816,(.h [0,1,2,3,4] (.o 5 (.h [6,7,8,9,10,11,12,13,14,15,16,17,18] .nil)))⟩),(9,⟨[0,0,2,6,14,0,32,126,255,511,1023],0,(.h [0,1,2,3,4,5] (.o 6 (.o 7 (.h [8,9] (.o 10 .nil)))))⟩)]⟩
theorem aD6:fnB aD5=true:=by decide +kernel
noncomputable def aD7:FI:=⟨Tryz.f366,[]⟩
theorem aD8:fnB aD7=true:=by decide +kernel
noncomputable def aD9:FI:=⟨Tryz.f371,[]⟩
theorem aEa:fnB aD9=true:=by decide +kernel
noncomputable def aEb:FI:=⟨Tryz.f372,[(1,⟨[0,1,3,7,0,16,48,112,240,511,1023,2047,4095,8191,16383,2047,34815,100351,231423,524287,1048575,2097151],522240,(.h [0,1,2,3,4,5,6,7,8] (.o 9 (.h [10,11,12,13,14,15,16,17,18,19,20,21] .nil)))⟩)]⟩
theorem aEc:fnB aEb=true:=by decide +kernel
noncomputable def aEd:FI:=⟨Tryz.f373,[(7,⟨[0,0,0,4,12,0,32,96,224,492,0,2028,4092,8191],2584,(.h [0,1,2,5,6,7,8,10] (.o 3 (.h [4] (.o 9 (.o 11 (.h [12] (.o 13 .nil)))))))⟩)]⟩
theorem aEe:fnB aEd=true:=by decide +kernel
noncomputable def aEf:FI:=⟨Tryz.f376,[]⟩
theorem aEg:fnB aEf=true:=by decide +kernel
noncomputable def aEh:FI:=⟨Tryz.f377,[]⟩
theorem aEi:fnB aEh=true:=by decide +kernel
noncomputable def aEj:FI:=⟨Tryz.f378,[]⟩
theorem aEk:fnB aEj=true:=by decide +kernel
noncomputable def aEl:FI:=⟨Tryz.f380,[(3,⟨[0,1,3,7,0,16,63,127],0,(.h [0,1,2,3,4,5] (.o 6 (.o 7 .nil)))⟩),(4,⟨[0,0,2,6,14,30,0,64,0,256,960,1984,4094,8191,16383,32767,65535],0,(.h [0,1,2,3,4,5,6,7,8,9,10] (.o 11 (.o 12 (.h [13,14,15] (.o 16 .nil)))))⟩),(6,⟨[0,0,2,6,14,30,0,64,192,510,1023,2047,4095,8191],0,(.h [0,1,2,3,4,5,6,7] (.o 8 (.o 9 (.h [10,11,12] (.o 13 .nil)))))⟩)]⟩
theorem aEm:fnB aEl=true:=by decide +kernel
noncomputable def aEn:FI:=⟨Tryz.f385,[(3,⟨[0,1,3,7,0,16,63,127],32,(.h [0,1,2,3,4] (.o 5 (.o 6 (.h [7] .nil))))⟩)]⟩
theorem aEo:fnB aEn=true:=by decide +kernel
noncomputable def aEp:FI:=⟨Tryz.f397,[]⟩
theorem aEq:fnB aEp=true:=by decide +kernel
noncomputable def aEr:FI:=⟨Tryz.f398,[]⟩
theorem aEs:fnB aEr=true:=by decide +kernel
noncomputable def aEt:FI:=⟨Tryz.f399,[]⟩
theorem aEu:fnB aEt=true:=by decide +kernel
noncomputable def aEv:FI:=⟨Tryz.f400,[(10,⟨[0,1,3,7,15,7,39,127,255,7,1023,2047,4095],0,(.h [0,1,2,3,4,5,6,7,8,9] (.o 10 (.h [11,12] .nil)))⟩)]⟩
theorem aEw:fnB aEv=true:=by decide +kernel
noncomputable def aEx:FI:=⟨Tryz.f402,[]⟩
theorem aEy:fnB aEx=true:=by decide +kernel
noncomputable def aEz:FI:=⟨Tryz.f403,[]⟩
theorem aEA:fnB aEz=true:=by decide +kernel
noncomputable def aEB:FI:=⟨Tryz.f425,[]⟩
theorem aEC:fnB aEB=true:=by decide +kernel
noncomputable def aED:FI:=⟨Tryz.f426,[]⟩
theorem aEE:fnB aED=true:=by decide +kernel
noncomputable def aEF:FI:=⟨Tryz.f427,[]⟩
theorem aEG:fnB aEF=true:=by decide +kernel
noncomputable def aEH:FI:=⟨Tryz.f428,[(3,⟨[0,1,3,7,0,0,32,96,224,496,1008,0,0,4096,12288,28672,63488,131071,262143,524287,1048575,2097151,4194303],0,(.h [0,1,2,3,4,5,6,7,8,9,10,11,12,13,14,15,16,17] (.o 18 (.h [19,20] (.o 21 (.h [22] .nil)))))⟩)]⟩
theorem aEI:fnB aEH=true:=by decide +kernel
noncomputable def aEJ:FI:=⟨Tryz.f429,[]⟩
theorem aEK:fnB aEJ=true:=by decide +kernel
noncomputable def aEL:FI:=⟨Tryz.f430,[]⟩
theorem aEM:fnB aEL=true:=by decide +kernel
noncomputable def aEN:FI:=⟨Tryz.f431,[]⟩
theorem aEO:fnB aEN=true:=by decide +kernel
noncomputable def aEP:FI:=⟨Tryz.f432,[]⟩
theorem aEQ:fnB aEP=true:=by decide +kernel
noncomputable def aER:FI:=⟨Tryz.f433,[]⟩
theorem aES:fnB aER=true:=by decide +kernel
noncomputable def aET:FI:=⟨Tryz.f444,[]⟩
theorem aEU:fnB aET=true:=by decide +kernel
noncomputable def aEV:FI:=⟨Tryz.f446,[]⟩
theorem aEW:fnB aEV=true:=by decide +kernel
noncomputable def aEX:FI:=⟨Tryz.f449,[]⟩
theorem aEY:fnB aEX=true:=by decide +kernel
noncomputable def aEZ:FI:=⟨Tryz.f450,[]⟩
theorem aE0:fnB aEZ=true:=by decide +kernel
noncomputable def aE1:FI:=⟨Tryz.f454,[]⟩
theorem aE2:fnB aE1=true:=by decide +kernel
noncomputable def aE3:FI:=⟨Tryz.f459,[(2,⟨[0,1,3,7,0,16,48,112,240,511],0,(.h [0,1,2,3,4,5,6,7,8] (.o 9 .nil))⟩)]⟩
theorem aE4:fnB aE3=true:=by decide +kernel
noncomputable def aE5:FI:=⟨Tryz.f460,[(0,⟨[0,1,3,7,15,15,47,111,239,15,527,1551,15,4111,12303,28687,61455,130575,262127,524287,1048575,2097151],524272,(.h [0] (.o 1 (.h [2,3,4,5,6,7,8,9,12,13,14,15,16] (.o 10 (.h [11,17] (.o 18 (.o 19 (.h [20,21] .nil))))))))⟩)]⟩
theorem aE6:fnB aE5=true:=by decide +kernel
noncomputable def aE7:FI:=⟨Tryz.f464,[]⟩
theorem aE8:fnB aE7=true:=by decide +kernel
noncomputable def aE9:FI:=⟨Tryz.f466,[]⟩
theorem aFa:fnB aE9=true:=by decide +kernel
noncomputable def aFb:FI:=⟨Tryz.f469,[]⟩
theorem aFc:fnB aFb=true:=by decide +kernel
noncomputable def aFd:FI:=⟨Tryz.f474,[]⟩
theorem aFe:fnB aFd=true:=by decide +kernel
noncomputable def aFf:FI:=⟨Tryz.f475,[]⟩
theorem aFg:fnB aFf=true:=by decide +kernel
noncomputable def aFh:FI:=⟨Tryz.f477,[]⟩
theorem aFi:fnB aFh=true:=by decide +kernel
noncomputable def aFj:FI:=⟨Tryz.f483,[]⟩
theorem aFk:fnB aFj=true:=by decide +kernel
noncomputable def aFl:FI:=⟨Tryz.f485,[]⟩
theorem aFm:fnB aFl=true:=by decide +kernel
noncomputable def aFn:FI:=⟨Tryz.f486,[]⟩
theorem aFo:fnB aFn=true:=by decide +kernel
noncomputable def aFp:FI:=⟨Tryz.f501,[]⟩
theorem aFq:fnB aFp=true:=by decide +kernel
noncomputable def aFr:FI:=⟨Tryz.f502,[(11,⟨[0,0,2,7,15],4,(.h [0,1] (.o 2 (.o 3 (.h [4] .nil))))⟩)]⟩
theorem aFs:fnB aFr=true:=by decide +kernel
noncomputable def aFt:FI:=⟨Tryz.f503,[]⟩
theorem aFu:fnB aFt=true:=by decide +kernel
noncomputable def aFv:FI:=⟨Tryz.f504,[]⟩
theorem aFw:fnB aFv=true:=by decide +kernel
noncomputable def aFx:FI:=⟨Tryz.f506,[]⟩
theorem aFy:fnB aFx=true:=by decide +kernel
noncomputable def aFz:FI:=⟨Tryz.f507,[(4,⟨[0,1,3,7,0,16,48,112,255,511,1023,1023,2047,8191],128,(.h [0,1,2,3,4,5,6] (.o 7 (.o 8 (.h [9,10,11,12,13] .nil))))⟩),(6,⟨[0,1,3,7,0,16,48,112,0,256,768,1792,4095,8191],128,(.h [0,1,2,3,4,5,6,8,9,10,11] (.o 7 (.o 12 (.h [13] .nil))))⟩),(9,⟨[0,1,3,7,0,16,48,112,255,511],128,(.h [0,1,2,3,4,5,6] (.o 7 (.o 8 (.h [9] .nil))))⟩)]⟩
theorem aFA:fnB aFz=true:=by decide +kernel
noncomputable def aFB:FI:=⟨Tryz.f508,[]⟩
theorem aFC:fnB aFB=true:=by decide +kernel
noncomputable def aFD:FI:=⟨Tryz.f510,[]⟩
theorem aFE:fnB aFD=true:=by decide +kernel
noncomputable def aFF:FI:=⟨Tryz.f511,[]⟩
theorem aFG:fnB aFF=true:=by decide +kernel
noncomputable def aFH:FI:=⟨Tryz.f512,[]⟩
theorem aFI:fnB aFH=true:=by decide +kernel
noncomputable def aFJ:FI:=⟨Tryz.f513,[]⟩
theorem aFK:fnB aFJ=true:=by decide +kernel
noncomputable def aFL:FI:=⟨Tryz.f514,[]⟩
theorem aFM:fnB aFL=true:=by decide +kernel
noncomputable def aFN:FI:=⟨Tryz.f518,[]⟩
theorem aFO:fnB aFN=true:=by decide +kernel
noncomputable def aFP:FI:=⟨Tryz.f521,[]⟩
theorem aFQ:fnB aFP=true:=by decide +kernel
noncomputable def aFR:FI:=⟨Tryz.f522,[]⟩
theorem aFS:fnB aFR=true:=by decide +kernel
noncomputable def aFT:FI:=⟨Tryz.f524,[]⟩
theorem aFU:fnB aFT=true:=by decide +kernel
noncomputable def aFV:FI:=⟨Tryz.f525,[]⟩
theorem aFW:fnB aFV=true:=by decide +kernel
noncomputable def aFX:FI:=⟨Tryz.f526,[(1,⟨[0,0,2,6,14,0,32,0,0,480,992,2046,4095,8191],576,(.h [0,1,2,3,4,5,7,8] (.o 6 (.h [9] (.o 10 (.o 11 (.o 12 (.h [13] .nil)))))))⟩)]⟩
theorem aFY:fnB aFX=true:=by decide +kernel
noncomputable def aFZ:FI:=⟨Tryz.f527,[(1,⟨[0,1,3,7,0,16,48,112,0,256,768,1792,3840,0,8192,24576,57344,122880,262143,524287],131072,(.h [0,1,2,3,4,5,6,7,8,9,10,11,12,13,14,15,16] (.o 17 (.o 18 (.h [19] .nil))))⟩)]⟩
theorem aF0:fnB aFZ=true:=by decide +kernel
noncomputable def aF1:FI:=⟨Tryz.f532,[]⟩
theorem aF2:fnB aF1=true:=by decide +kernel
noncomputable def aF3:FI:=⟨Tryz.f533,[]⟩
theorem aF4:fnB aF3=true:=by decide +kernel
noncomputable def aF5:FI:=⟨Tryz.f534,[]⟩
theorem aF6:fnB aF5=true:=by decide +kernel
noncomputable def aF7:FI:=⟨Tryz.f535,[(6,⟨[0,1,3,7,15,0,32,96,255,0,1023,2047],192,(.h [0,1,2,3,4,5,9] (.o 6 (.h [7,8,10,11] .nil)))⟩)]⟩
theorem aF8:fnB aF7=true:=by decide +kernel
noncomputable def aF9:FI:=⟨Tryz.f536,[(4,⟨[0,0,2,6,14,30,0,126,255,511],0,(.h [0,1,2,3,4,5,6] (.o 7 (.o 8 (.h [9] .nil))))⟩)]⟩
theorem aGa:fnB aF9=true:=by decide +kernel
noncomputable def aGb:FI:=⟨Tryz.f537,[(1,⟨[0,0,0,4,0,16,48,112,252,508,1020,2045,4093,8189,16383,32767,65535],8,(.h [0,1,2,4,5,6,7] (.o 3 (.o 8 (.o 9 (.o 10 (.h [11,12] (.o 13 (.h [14,15] (.o 16 .nil)))))))))⟩)]⟩
theorem aGc:fnB aGb=true:=by decide +kernel
noncomputable def aGd:FI:=⟨Tryz.f538,[]⟩
theorem aGe:fnB aGd=true:=by decide +kernel
noncomputable def aGf:FI:=⟨Tryz.f541,[]⟩
theorem aGg:fnB aGf=true:=by decide +kernel
noncomputable def aGh:FI:=⟨Tryz.f549,[]⟩
theorem aGi:fnB aGh=true:=by decide +kernel
noncomputable def aGj:FI:=⟨Tryz.f564,[]⟩
theorem aGk:fnB aGj=true:=by decide +kernel
noncomputable def aGl:FI:=⟨Tryz.f566,[]⟩
theorem aGm:fnB aGl=true:=by decide +kernel
noncomputable def aGn:FI:=⟨Tryz.f575,[]⟩
theorem aGo:fnB aGn=true:=by decide +kernel
noncomputable def aGp:FI:=⟨Tryz.f578,[(8,⟨[0,1,3,7,0,0,63],0,(.h [0,1,2,3,4,5] (.o 6 .nil))⟩)]⟩
theorem aGq:fnB aGp=true:=by decide +kernel
noncomputable def aGr:FI:=⟨Tryz.f579,[]⟩
theorem aGs:fnB aGr=true:=by decide +kernel
noncomputable def aGt:FI:=⟨Tryz.f580,[]⟩
theorem aGu:fnB aGt=true:=by decide +kernel
noncomputable def aGv:FI:=⟨Tryz.f584,[(3,⟨[0,1,3,7,0,16,48,112,240,496,1023,2047],0,(.h [0,1,2,3,4,5,6,7,8,9,10,11] .nil)⟩)]⟩
theorem aGw:fnB aGv=true:=by decide +kernel
noncomputable def aGx:FI:=⟨Tryz.f585,[]⟩
theorem aGy:fnB aGx=true:=by decide +kernel
noncomputable def aGz:FI:=⟨Tryz.f586,[]⟩
theorem aGA:fnB aGz=true:=by decide +kernel
