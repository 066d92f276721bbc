/- For scbodies_law_holds. -/
import Derived.Test.YtgeihgombjbkbaaGreatProg
import Derived.Test.YtgeihgombjbkbaaGreatSbb33
namespace Go.Proofs.YtgeihgombjbkbaaGreat
open Go Go.Proofs.Rn
noncomputable def fi6:FI:=⟨Tryz.f6,[]⟩
theorem aLD:fnB fi6=true:=by decide +kernel
noncomputable def fi7:FI:=⟨Tryz.f7,[(6,⟨[0,1,3,7,0,16,48,112,0,256,768,1792,0,4096,12288,28672,0,65536,196608,458752,0,1048576,3145728,7340032,0,16777216,67108863,134217727,0],0,(.h [0,1,2,3,4,5,6,7,8,9,10,11,12,13,14,15,16,17,18,19,20,21,22,23,24,25,28] (.o 26 (.h [27] .nil)))⟩),(9,⟨[0,1,0,0,8,28,60,127,255],96,(.h [0,1,2,3,4] (.o 5 (.h [6,7] (.o 8 .nil))))⟩),(15,⟨[0,1,0,4,12,31,63,127],8,(.h [0,1,2] (.o 3 (.o 4 (.o 5 (.h [6] (.o 7 .nil))))))⟩)]⟩
theorem aLI:fnB fi7=true:=by decide +kernel
noncomputable def aLe:FI:=⟨Tryz.f11,[]⟩
theorem aJE:fnB aLe=true:=by decide +kernel
noncomputable def aLf:FI:=⟨Tryz.f14,[]⟩
theorem aJF:fnB aLf=true:=by decide +kernel
noncomputable def aLg:FI:=⟨Tryz.f19,[(12,⟨[0,1,0,4,15],2,(.h [0,2,3] (.o 1 (.h [4] .nil)))⟩),(19,⟨[0,1,3,0,15,31,7,95,255,511],246,(.h [0,3] (.o 1 (.o 2 (.h [6] (.o 4 (.h [5] (.o 7 (.h [8] (.o 9 .nil)))))))))⟩)]⟩
theorem aJG:fnB aLg=true:=by decide +kernel
noncomputable def aLh:FI:=⟨Tryz.f20,[]⟩
theorem aJH:fnB aLh=true:=by decide +kernel
noncomputable def aLi:FI:=⟨Tryz.f21,[]⟩
theorem aJI:fnB aLi=true:=by decide +kernel
noncomputable def aLj:FI:=⟨Tryz.f22,[]⟩
theorem aJJ:fnB aLj=true:=by decide +kernel
noncomputable def aLk:FI:=⟨Tryz.f23,[]⟩
theorem aJK:fnB aLk=true:=by decide +kernel
noncomputable def aLl:FI:=⟨Tryz.f24,[]⟩
theorem aJL:fnB aLl=true:=by decide +kernel
noncomputable def aLm:FI:=⟨Tryz.f27,[]⟩
theorem aJM:fnB aLm=true:=by decide +kernel
noncomputable def aLn:FI:=⟨Tryz.f35,[]⟩
theorem aJN:fnB aLn=true:=by decide +kernel
noncomputable def aLo:FI:=⟨Tryz.f36,[]⟩
theorem aJO:fnB aLo=true:=by decide +kernel
noncomputable def aLp:FI:=⟨Tryz.f38,[]⟩
theorem aJP:fnB aLp=true:=by decide +kernel
noncomputable def aLq:FI:=⟨Tryz.f39,[]⟩
theorem aJQ:fnB aLq=true:=by decide +kernel
noncomputable def aLr:FI:=⟨Tryz.f42,[]⟩
theorem aJR:fnB aLr=true:=by decide +kernel
noncomputable def aLs:FI:=⟨Tryz.f43,[]⟩
theorem aJS:fnB aLs=true:=by decide +kernel
noncomputable def aLt:FI:=⟨Tryz.f58,[]⟩
theorem aJT:fnB aLt=true:=by decide +kernel
noncomputable def aLu:FI:=⟨Tryz.f59,[]⟩
theorem aJU:fnB aLu=true:=by decide +kernel
noncomputable def aLv:FI:=⟨Tryz.f60,[]⟩
theorem aJV:fnB aLv=true:=by decide +kernel
noncomputable def aLw:FI:=⟨Tryz.f61,[]⟩
theorem aJW:fnB aLw=true:=by decide +kernel
noncomputable def aLx:FI:=⟨Tryz.f62,[]⟩
theorem aJX:fnB aLx=true:=by decide +kernel
noncomputable def aLy:FI:=⟨Tryz.f63,[(6,⟨[0,1,3,0,8,31,31,127,255,511],4,(.h [0,1,3,4] (.o 2 (.h [6] (.o 5 (.o 7 (.h [8] (.o 9 .nil)))))))⟩)]⟩
theorem aJY:fnB aLy=true:=by decide +kernel
noncomputable def aLz:FI:=⟨Tryz.f64,[]⟩
theorem aJZ:fnB aLz=true:=by decide +kernel
noncomputable def aLA:FI:=⟨Tryz.f67,[]⟩
theorem aJ0:fnB aLA=true:=by decide +kernel
noncomputable def aLB:FI:=⟨Tryz.f68,[]⟩
theorem aJ1:fnB aLB=true:=by decide +kernel
noncomputable def aLC:FI:=⟨Tryz.f69,[]⟩
theorem aJ2:fnB aLC=true:=by decide +kernel
noncomputable def aLE:FI:=⟨Tryz.f70,[(7,⟨[0,1,3,0,8,0,7,95,255,511],0,(.h [0,1,2,3,4,5,6,7] (.o 8 (.h [9] .nil)))⟩)]⟩
theorem aJ3:fnB aLE=true:=by decide +kernel
noncomputable def aLF:FI:=⟨Tryz.f71,[]⟩
theorem aJ4:fnB aLF=true:=by decide +kernel
noncomputable def aLG:FI:=⟨Tryz.f72,[]⟩
theorem aJ5:fnB aLG=true:=by decide +kernel
noncomputable def aLH:FI:=⟨Tryz.f75,[]⟩
theorem aJ6:fnB aLH=true:=by decide +kernel
noncomputable def aLJ:FI:=⟨Tryz.f83,[(9,⟨[0,0,2,6,14,0,0,64,0,448,960,2016,4064,8160,16382,32767,65535,131071],0,(.h [0,1,2,3,4,5,6,7,8,9,10,11,12] (.o 13 (.o 14 (.h [15,16] (.o 17 .nil)))))⟩)]⟩
theorem aJ7:fnB aLJ=true:=by decide +kernel
noncomputable def aLK:FI:=⟨Tryz.f86,[]⟩
theorem aJ8:fnB aLK=true:=by decide +kernel
noncomputable def aLL:FI:=⟨Tryz.f87,[]⟩
theorem aJ9:fnB aLL=true:=by decide +kernel
noncomputable def aLM:FI:=⟨Tryz.f90,[]⟩
theorem aKa:fnB aLM=true:=by decide +kernel
noncomputable def aLN:FI:=⟨Tryz.f91,[]⟩
theorem aKb:fnB aLN=true:=by decide +kernel
noncomputable def aLO:FI:=⟨Tryz.f92,[]⟩
theorem aKc:fnB aLO=true:=by decide +kernel
noncomputable def aAS:FI:=⟨Tryz.f101,[(3,⟨[0,0,3,7,15],2,(.h [0] (.o 1 (.h [2] (.o 3 (.h [4] .nil)))))⟩),(7,⟨[0,0,0,4,12,1,33,127,255],0,(.h [0,1,2,3,5,6] (.o 4 (.h [7] (.o 8 .nil))))⟩),(13,⟨[0,0,0,4,1,17,63,127],0,(.h [0,1,2,4,5] (.o 3 (.h [6] (.o 7 .nil))))⟩),(18,⟨[0,0,0,4,0,16,60,1,129,511,1023],0,(.h [0,1,2,3,4,5,7,8] (.o 6 (.h [9] (.o 10 .nil))))⟩)]⟩
theorem aAT:fnB aAS=true:=by decide +kernel
noncomputable def aAU:FI:=⟨Tryz.f102,[]⟩
theorem aAV:fnB aAU=true:=by decide +kernel
noncomputable def aAW:FI:=⟨Tryz.f103,[]⟩
theorem aAX:fnB aAW=true:=by decide +kernel
noncomputable def aAY:FI:=⟨Tryz.f104,[]⟩
theorem aAZ:fnB aAY=true:=by decide +kernel
noncomputable def aA0:FI:=⟨Tryz.f105,[]⟩
theorem aA1:fnB aA0=true:=by decide +kernel
noncomputable def aA2:FI:=⟨Tryz.f106,[]⟩
theorem aA3:fnB aA2=true:=by decide +kernel
noncomputable def aA4:FI:=⟨Tryz.f107,[]⟩
theorem aA5:fnB aA4=true:=by decide +kernel
noncomputable def aA6:FI:=⟨Tryz.f108,[]⟩
theorem aA7:fnB aA6=true:=by decide +kernel
noncomputable def aA8:FI:=⟨Tryz.f109,[]⟩
theorem aA9:fnB aA8=true:=by decide +kernel
noncomputable def aBa:FI:=⟨Tryz.f111,[]⟩
theorem aBb:fnB aBa=true:=by decide +kernel
noncomputable def aBc:FI:=⟨Tryz.f113,[]⟩
theorem aBd:fnB aBc=true:=by decide +kernel
noncomputable def aBe:FI:=⟨Tryz.f116,[(7,⟨[0,1,3,7,15,0,32,96,224,480,1023,0,2048,6144,14336,32767,65535],0,(.h [0,1,2,3,4,5,6,7,8,9,10,11,12,13,14,15,16] .nil)⟩)]⟩
theorem aBf:fnB aBe=true:=by decide +kernel
noncomputable def aBg:FI:=⟨Tryz.f117,[(4,⟨[0,0,3,7,15,31,0,0,128,448,960,1984,4032,8191,0,0,32768,114688,245760,507904,1048575,2097151],0,(.h [0,1,2,3,4,5,6,7,8,9,10,11,12,13,14,15,16,17,18,19,20,21] .nil)⟩)]⟩
theorem aBh:fnB aBg=true:=by decide +kernel
noncomputable def aBi:FI:=⟨Tryz.f118,[]⟩
theorem aBj:fnB aBi=true:=by decide +kernel
noncomputable def aBk:FI:=⟨Tryz.f130,[]⟩
theorem aBl:fnB aBk=true:=by decide +kernel
noncomputable def aBm:FI:=⟨Tryz.f131,[]⟩
theorem aBn:fnB aBm=true:=by decide +kernel
noncomputable def aBo:FI:=⟨Tryz.f134,[]⟩
theorem aBp:fnB aBo=true:=by decide +kernel
noncomputable def aBq:FI:=⟨Tryz.f145,[]⟩
theorem aBr:fnB aBq=true:=by decide +kernel
noncomputable def aBs:FI:=⟨Tryz.f146,[]⟩
theorem aBt:fnB aBs=true:=by decide +kernel
noncomputable def aBu:FI:=⟨Tryz.f147,[(0,⟨[0,0,0,4,12,28,0,124,0,0,256,1280,3840,7936,16380,32764,65532,65532,1,262145,917503,1966079],128,(.h [0,1,2,3,4,5,6,8,9,10,11,12,13,18,19] (.o 7 (.o 14 (.h [15,16,17,20] (.o 21 .nil)))))⟩)]⟩
theorem aBv:fnB aBu=true:=by decide +kernel
noncomputable def aBw:FI:=⟨Tryz.f148,[]⟩
theorem aBx:fnB aBw=true:=by decide +kernel
noncomputable def aBy:FI:=⟨Tryz.f149,[]⟩
theorem aBz:fnB aBy=true:=by decide +kernel
noncomputable def aBA:FI:=⟨Tryz.f151,[]⟩
theorem aBB:fnB aBA=true:=by decide +kernel
noncomputable def aBC:FI:=⟨Tryz.f152,[]⟩
theorem aBD:fnB aBC=true:=by decide +kernel
noncomputable def aBE:FI:=⟨Tryz.f153,[]⟩
theorem aBF:fnB aBE=true:=by decide +kernel
noncomputable def aBG:FI:=⟨Tryz.f154,[]⟩
theorem aBH:fnB aBG=true:=by decide +kernel
noncomputable def aBI:FI:=⟨Tryz.f155,[]⟩
theorem aBJ:fnB aBI=true:=by decide +kernel
noncomputable def aBK:FI:=⟨Tryz.f156,[(2,⟨[0,0,0,0,4,20,60,124,0,256,768,2044,4092,1,8193,32767,65535],0,(.h [0,1,2,3,4,5,6,7,8,9,10,11,12,13,14,15] (.o 16 .nil))⟩)]⟩
theorem aBL:fnB aBK=true:=by decide +kernel
noncomputable def aBM:FI:=⟨Tryz.f157,[]⟩
theorem aBN:fnB aBM=true:=by decide +kernel
noncomputable def aBO:FI:=⟨Tryz.f158,[]⟩
theorem aBP:fnB aBO=true:=by decide +kernel
noncomputable def aBQ:FI:=⟨Tryz.f159,[]⟩
theorem aBR:fnB aBQ=true:=by decide +kernel
noncomputable def aBS:FI:=⟨Tryz.f160,[]⟩
theorem aBT:fnB aBS=true:=by decide +kernel
noncomputable def aBU:FI:=⟨Tryz.f161,[]⟩
theorem aBV:fnB aBU=true:=by decide +kernel
noncomputable def aBW:FI:=⟨Tryz.f162,[(5,⟨[0,1,3,7,0,16,48,112,0,256,768,1792,0,4096,0,16384,49152,114688,0,262144,786432,1835008,0,4194304,12582912,29360128,62926848,0,134217728,402653184,939524096,2143301632,0,4294967296,12884901888,30064771072,68715294720,137438953471,274877906943],70934077440,(.h [0,1,2,3,4,5,6,7,8,9,10,11,12,14,15,16,17,18,19,20,21,22,23,24,25,27,28,29,30,32,33,34,35] (.o 13 (.o 26 (.o 31 (.o 36 (.h [37] (.o 38 .nil)))))))⟩)]⟩
theorem aBX:fnB aBW=true:=by decide +kernel
noncomputable def aBY:FI:=⟨Tryz.f163,[(3,⟨[0,1,3,7,15,0,32,96,224,0,512,1536,3584,7711,0,16384,49152,114688,261663,0,524288,1572864,3670016,8388127,0,16777216,50331648,117440512,268434975,536870911,1073741823,2147483647],277094416,(.h [0,1,2,3,5,6,7,8,9,10,11,12,14,15,16,17,19,20,21,22,24,25,26,27] (.o 4 (.o 13 (.o 18 (.o 23 (.o 28 (.h [29] (.o 30 (.h [31] .nil)))))))))⟩)]⟩
theorem aBZ:fnB aBY=true:=by decide +kernel
noncomputable def aB0:FI:=⟨Tryz.f164,[]⟩
theorem aB1:fnB aB0=true:=by decide +kernel
noncomputable def aB2:FI:=⟨Tryz.f165,[]⟩
theorem aB3:fnB aB2=true:=by decide +kernel
noncomputable def aB4:FI:=⟨Tryz.f166,[]⟩
theorem aB5:fnB aB4=true:=by decide +kernel
noncomputable def aB6:FI:=⟨Tryz.f167,[]⟩
theorem aB7:fnB aB6=true:=by decide +kernel
noncomputable def aB8:FI:=⟨Tryz.f168,[]⟩
theorem aB9:fnB aB8=true:=by decide +kernel
noncomputable def aCa:FI:=⟨Tryz.f181,[]⟩
theorem aCb:fnB aCa=true:=by decide +kernel
noncomputable def aCc:FI:=⟨Tryz.f185,[]⟩
theorem aCd:fnB aCc=true:=by decide +kernel
noncomputable def aCe:FI:=⟨Tryz.f186,[]⟩
theorem aCf:fnB aCe=true:=by decide +kernel
noncomputable def aCg:FI:=⟨Tryz.f194,[]⟩
theorem aCh:fnB aCg=true:=by decide +kernel
noncomputable def aCi:FI:=⟨Tryz.f195,[(6,⟨[0,0,0,7,15,31],4,(.h [0,1] (.o 2 (.h [3] (.o 4 (.h [5] .nil)))))⟩)]⟩
theorem aCj:fnB aCi=true:=by decide +kernel
noncomputable def aCk:FI:=⟨Tryz.f203,[]⟩
theorem aCl:fnB aCk=true:=by decide +kernel
noncomputable def aCm:FI:=⟨Tryz.f206,[]⟩
theorem aCn:fnB aCm=true:=by decide +kernel
noncomputable def aCo:FI:=⟨Tryz.f207,[]⟩
theorem aCp:fnB aCo=true:=by decide +kernel
noncomputable def aCq:FI:=⟨Tryz.f208,[]⟩
theorem aCr:fnB aCq=true:=by decide +kernel
noncomputable def aCs:FI:=⟨Tryz.f210,[]⟩
theorem aCt:fnB aCs=true:=by decide +kernel
noncomputable def aCu:FI:=⟨Tryz.f211,[]⟩
theorem aCv:fnB aCu=true:=by decide +kernel
noncomputable def aCw:FI:=⟨Tryz.f213,[(1,⟨[0,0,0,2,10,30,62,127,255],0,(.h [0,1,2,3,4,5,6] (.o 7 (.o 8 .nil)))⟩)]⟩
theorem aCx:fnB aCw=true:=by decide +kernel
noncomputable def aCy:FI:=⟨Tryz.f214,[(6,⟨[0,1,3,7,15,31,63,127,255,15,527,2047,4095,8191,16383,32767,65535,131071,8191,270335,1048575,2097151,4194303],0,(.h [0,1,2,3,4,5,6,7,8,9,10,11,12,13,14,15,16,17,18,19,20,21,22] .nil)⟩),(12,⟨[0,0,0,0,8,5,37,101,229,511,1023,2047,4095],256,(.h [0,1,2,3,4,5,6,7] (.o 8 (.h [9,10,11] (.o 12 .nil))))⟩)]⟩
theorem aCz:fnB aCy=true:=by decide +kernel
noncomputable def aCA:FI:=⟨Tryz.f215,[(3,⟨[0,1,3,7,15,0,32,96,224,480,992,0,2048,6144,14336,30720,63488,31,133119,524287],393232,(.h [0,1,2,3,5,6,7,8,9,10,11,12,13,14,15,16] (.o 4 (.h [17,18,19] .nil)))⟩)]⟩
theorem aCB:fnB aCA=true:=by decide +kernel
noncomputable def aCC:FI:=⟨Tryz.f220,[]⟩
theorem aCD:fnB aCC=true:=by decide +kernel
noncomputable def aCE:FI:=⟨Tryz.f222,[(3,⟨[0,1,3,7,15,0,0,64,192,448,992,2047,4095,8191],1024,(.h [0,1,2,3,4,6,7,8,9] (.o 5 (.o 10 (.h [11,12,13] .nil))))⟩)]⟩
theorem aCF:fnB aCE=true:=by decide +kernel
noncomputable def aCG:FI:=⟨Tryz.f225,[]⟩
theorem aCH:fnB aCG=true:=by decide +kernel
noncomputable def aCI:FI:=⟨Tryz.f226,[]⟩
theorem aCJ:fnB aCI=true:=by decide +kernel
noncomputable def aCK:FI:=⟨Tryz.f227,[]⟩
theorem aCL:fnB aCK=true:=by decide +kernel
noncomputable def aCM:FI:=⟨Tryz.f228,[]⟩
theorem aCN:fnB aCM=true:=by decide +kernel
noncomputable def aCO:FI:=⟨Tryz.f229,[]⟩
theorem aCP:fnB aCO=true:=by decide +kernel
noncomputable def aCQ:FI:=⟨Tryz.f230,[(3,⟨[0,1,3,7,15,0,32,96,224,511,1023,2047,4095],16,(.h [0,1,2,3,5,6,7,8] (.o 4 (.o 9 (.h [10] (.o 11 (.h [12] .nil))))))⟩)]⟩
theorem aCR:fnB aCQ=true:=by decide +kernel
noncomputable def aCS:FI:=⟨Tryz.f232,[]⟩
theorem aCT:fnB aCS=true:=by decide +kernel
noncomputable def aCU:FI:=⟨Tryz.f233,[(3,⟨[0,1,3,7,0,16,48,112,240,511,1023,2047],256,(.h [0,1,2,3,4,5,6,7] (.o 8 (.h [9] (.o 10 (.h [11] .nil)))))⟩)]⟩
theorem aCV:fnB aCU=true:=by decide +kernel
noncomputable def aCW:FI:=⟨Tryz.f234,[]⟩
theorem aCX:fnB aCW=true:=by decide +kernel
noncomputable def aCY:FI:=⟨Tryz.f235,[(7,⟨[0,0,0,1,9,31,63],0,(.h [0,1,3,4] (.o 2 (.h [5] (.o 6 .nil))))⟩)]⟩
theorem aCZ:fnB aCY=true:=by decide +kernel
noncomputable def aC0:FI:=⟨Tryz.f236,[]⟩
theorem aC1:fnB aC0=true:=by decide +kernel
noncomputable def aC2:FI:=⟨Tryz.f253,[]⟩
theorem aC3:fnB aC2=true:=by decide +kernel
noncomputable def aC4:FI:=⟨Tryz.f254,[]⟩
theorem aC5:fnB aC4=true:=by decide +kernel
noncomputable def aC6:FI:=⟨Tryz.f255,[]⟩
theorem aC7:fnB aC6=true:=by decide +kernel
noncomputable def aC8:FI:=⟨Tryz.f256,[]⟩
theorem aC9:fnB aC8=true:=by decide +kernel
noncomputable def aDa:FI:=⟨Tryz.f261,[(7,⟨[0,0,0,4,0,28,63,127,255],40,(.h [0,1,2,4] (.o 3 (.o 5 (.h [6] (.o 7 (.h [8] .nil))))))⟩)]⟩
theorem aDb:fnB aDa=true:=by decide +kernel
noncomputable def aDc:FI:=⟨Tryz.f262,[(7,⟨[0,1,3,7,0,16,0,64,192,448,0,1024,3072,7168,16320,32704,65535,131071,262143],0,(.h [0,1,2,3,4,5,6,7,8,9,10,11,12,13,14,15] (.o 16 (.h [17] (.o 18 .nil))))⟩),(10,⟨[0,1,3,7,0,16,48,112,255,511,1023],0,(.h [0,1,2,3,4,5,6,7] (.o 8 (.h [9] (.o 10 .nil))))⟩)]⟩
theorem aDd:fnB aDc=true:=by decide +kernel
