/- For scbytes_law_holds. -/
import Derived.Test.YtgeihgombjbkbaaGreatProg
import Derived.Test.YtgeihgombjbkbaaGreatSyb37
namespace Go.Proofs.YtgeihgombjbkbaaGreat
open Go Go.Proofs.Rn
noncomputable def fi6:FI:=⟨Tryz.f6,[]⟩
theorem aLu:fnB fi6=true:=by decide +kernel
noncomputable def fi7:FI:=⟨Tryz.f7,[(6,⟨[0,1,3,7,0,16,48,112,0,256,768,1792,0,4096,12288,28672,0,65536,196608,458752,0,1048576,3145728,7340032,0,16777216,67108863,134217727,0],0,(.h [0,1,2,3,4,5,6,7,8,9,10,11,12,13,14,15,16,17,18,19,20,21,22,23,24,25,28] (.o 26 (.h [27] .nil)))⟩),(9,⟨[0,1,0,0,8,28,60,127,255],96,(.h [0,1,2,3,4] (.o 5 (.h [6,7] (.o 8 .nil))))⟩),(15,⟨[0,1,0,4,12,31,63,127],8,(.h [0,1,2] (.o 3 (.o 4 (.o 5 (.h [6] (.o 7 .nil))))))⟩)]⟩
theorem aLz:fnB fi7=true:=by decide +kernel
noncomputable def aK5:FI:=⟨Tryz.f11,[]⟩
theorem aJv:fnB aK5=true:=by decide +kernel
noncomputable def aK6:FI:=⟨Tryz.f14,[]⟩
theorem aJw:fnB aK6=true:=by decide +kernel
noncomputable def aK7:FI:=⟨Tryz.f19,[(12,⟨[0,1,0,4,15],2,(.h [0,2,3] (.o 1 (.h [4] .nil)))⟩),(19,⟨[0,1,3,0,15,31,7,95,255,511],246,(.h [0,3] (.o 1 (.o 2 (.h [6] (.o 4 (.h [5] (.o 7 (.h [8] (.o 9 .nil)))))))))⟩)]⟩
theorem aJx:fnB aK7=true:=by decide +kernel
noncomputable def aK8:FI:=⟨Tryz.f20,[]⟩
theorem aJy:fnB aK8=true:=by decide +kernel
noncomputable def aK9:FI:=⟨Tryz.f21,[]⟩
theorem aJz:fnB aK9=true:=by decide +kernel
noncomputable def aLa:FI:=⟨Tryz.f22,[]⟩
theorem aJA:fnB aLa=true:=by decide +kernel
noncomputable def aLb:FI:=⟨Tryz.f23,[]⟩
theorem aJB:fnB aLb=true:=by decide +kernel
noncomputable def aLc:FI:=⟨Tryz.f24,[]⟩
theorem aJC:fnB aLc=true:=by decide +kernel
noncomputable def aLd:FI:=⟨Tryz.f27,[]⟩
theorem aJD:fnB aLd=true:=by decide +kernel
noncomputable def aLe:FI:=⟨Tryz.f35,[]⟩
theorem aJE:fnB aLe=true:=by decide +kernel
noncomputable def aLf:FI:=⟨Tryz.f36,[]⟩
theorem aJF:fnB aLf=true:=by decide +kernel
noncomputable def aLg:FI:=⟨Tryz.f38,[]⟩
theorem aJG:fnB aLg=true:=by decide +kernel
noncomputable def aLh:FI:=⟨Tryz.f39,[]⟩
theorem aJH:fnB aLh=true:=by decide +kernel
noncomputable def aLi:FI:=⟨Tryz.f42,[]⟩
theorem aJI:fnB aLi=true:=by decide +kernel
noncomputable def aLj:FI:=⟨Tryz.f43,[]⟩
theorem aJJ:fnB aLj=true:=by decide +kernel
noncomputable def aLk:FI:=⟨Tryz.f58,[]⟩
theorem aJK:fnB aLk=true:=by decide +kernel
noncomputable def aLl:FI:=⟨Tryz.f59,[]⟩
theorem aJL:fnB aLl=true:=by decide +kernel
noncomputable def aLm:FI:=⟨Tryz.f60,[]⟩
theorem aJM:fnB aLm=true:=by decide +kernel
noncomputable def aLn:FI:=⟨Tryz.f61,[]⟩
theorem aJN:fnB aLn=true:=by decide +kernel
noncomputable def aLo:FI:=⟨Tryz.f62,[]⟩
theorem aJO:fnB aLo=true:=by decide +kernel
noncomputable def aLp:FI:=⟨Tryz.f63,[(6,⟨[0,1,3,0,8,31,31,127,255,511],4,(.h [0,1,3,4] (.o 2 (.h [6] (.o 5 (.o 7 (.h [8] (.o 9 .nil)))))))⟩)]⟩
theorem aJP:fnB aLp=true:=by decide +kernel
noncomputable def aLq:FI:=⟨Tryz.f64,[]⟩
theorem aJQ:fnB aLq=true:=by decide +kernel
noncomputable def aLr:FI:=⟨Tryz.f67,[]⟩
theorem aJR:fnB aLr=true:=by decide +kernel
noncomputable def aLs:FI:=⟨Tryz.f68,[]⟩
theorem aJS:fnB aLs=true:=by decide +kernel
noncomputable def aLt:FI:=⟨Tryz.f69,[]⟩
theorem aJT:fnB aLt=true:=by decide +kernel
noncomputable def aLv:FI:=⟨Tryz.f70,[(7,⟨[0,1,3,0,8,0,7,95,255,511],0,(.h [0,1,2,3,4,5,6,7] (.o 8 (.h [9] .nil)))⟩)]⟩
theorem aJU:fnB aLv=true:=by decide +kernel
noncomputable def aLw:FI:=⟨Tryz.f71,[]⟩
theorem aJV:fnB aLw=true:=by decide +kernel
noncomputable def aLx:FI:=⟨Tryz.f72,[]⟩
theorem aJW:fnB aLx=true:=by decide +kernel
noncomputable def aLy:FI:=⟨Tryz.f75,[]⟩
theorem aJX:fnB aLy=true:=by decide +kernel
noncomputable def aLA:FI:=⟨Tryz.f83,[(9,⟨[0,0,2,6,14,0,0,64,0,448,960,2016,4064,8160,16382,32767,65535,131071],0,(.h [0,1,2,3,4,5,6,7,8,9,10,11,12] (.o 13 (.o 14 (.h [15,16] (.o 17 .nil)))))⟩)]⟩
theorem aJY:fnB aLA=true:=by decide +kernel
noncomputable def aLB:FI:=⟨Tryz.f86,[]⟩
theorem aJZ:fnB aLB=true:=by decide +kernel
noncomputable def aLC:FI:=⟨Tryz.f87,[]⟩
theorem aJ0:fnB aLC=true:=by decide +kernel
noncomputable def aLD:FI:=⟨Tryz.f90,[]⟩
theorem aJ1:fnB aLD=true:=by decide +kernel
noncomputable def aLE:FI:=⟨Tryz.f91,[]⟩
theorem aJ2:fnB aLE=true:=by decide +kernel
noncomputable def aLF:FI:=⟨Tryz.f92,[]⟩
theorem aJ3:fnB aLF=true:=by decide +kernel
noncomputable def aAH:FI:=⟨Tryz.f101,[(3,⟨[0,0,3,7,15],2,(.h [0] (.o 1 (.h [2] (.o 3 (.h [4] .nil)))))⟩),(7,⟨[0,0,0,4,12,1,33,127,255],0,(.h [0,1,2,3,5,6] (.o 4 (.h [7] (.o 8 .nil))))⟩),(13,⟨[0,0,0,4,1,17,63,127],0,(.h [0,1,2,4,5] (.o 3 (.h [6] (.o 7 .nil))))⟩),(18,⟨[0,0,0,4,0,16,60,1,129,511,1023],0,(.h [0,1,2,3,4,5,7,8] (.o 6 (.h [9] (.o 10 .nil))))⟩)]⟩
theorem aAI:fnB aAH=true:=by decide +kernel
noncomputable def aAJ:FI:=⟨Tryz.f102,[]⟩
theorem aAK:fnB aAJ=true:=by decide +kernel
noncomputable def aAL:FI:=⟨Tryz.f103,[]⟩
theorem aAM:fnB aAL=true:=by decide +kernel
noncomputable def aAN:FI:=⟨Tryz.f104,[]⟩
theorem aAO:fnB aAN=true:=by decide +kernel
noncomputable def aAP:FI:=⟨Tryz.f105,[]⟩
theorem aAQ:fnB aAP=true:=by decide +kernel
noncomputable def aAR:FI:=⟨Tryz.f106,[]⟩
theorem aAS:fnB aAR=true:=by decide +kernel
noncomputable def aAT:FI:=⟨Tryz.f107,[]⟩
theorem aAU:fnB aAT=true:=by decide +kernel
noncomputable def aAV:FI:=⟨Tryz.f108,[]⟩
theorem aAW:fnB aAV=true:=by decide +kernel
noncomputable def aAX:FI:=⟨Tryz.f109,[]⟩
theorem aAY:fnB aAX=true:=by decide +kernel
noncomputable def aAZ:FI:=⟨Tryz.f111,[]⟩
theorem aA0:fnB aAZ=true:=by decide +kernel
noncomputable def aA1:FI:=⟨Tryz.f113,[]⟩
theorem aA2:fnB aA1=true:=by decide +kernel
noncomputable def aA3:FI:=⟨Tryz.f116,[(7,⟨[0,1,3,7,15,0,32,96,224,480,1023,0,2048,6144,14336,32767,65535],0,(.h [0,1,2,3,4,5,6,7,8,9,10,11,12,13,14,15,16] .nil)⟩)]⟩
theorem aA4:fnB aA3=true:=by decide +kernel
noncomputable def aA5:FI:=⟨Tryz.f117,[(4,⟨[0,0,3,7,15,31,0,0,128,448,960,1984,4032,8191,0,0,32768,114688,245760,507904,1048575,2097151],0,(.h [0,1,2,3,4,5,6,7,8,9,10,11,12,13,14,15,16,17,18,19,20,21] .nil)⟩)]⟩
theorem aA6:fnB aA5=true:=by decide +kernel
noncomputable def aA7:FI:=⟨Tryz.f118,[]⟩
theorem aA8:fnB aA7=true:=by decide +kernel
noncomputable def aA9:FI:=⟨Tryz.f130,[]⟩
theorem aBa:fnB aA9=true:=by decide +kernel
noncomputable def aBb:FI:=⟨Tryz.f131,[]⟩
theorem aBc:fnB aBb=true:=by decide +kernel
noncomputable def aBd:FI:=⟨Tryz.f134,[]⟩
theorem aBe:fnB aBd=true:=by decide +kernel
noncomputable def aBf:FI:=⟨Tryz.f145,[]⟩
theorem aBg:fnB aBf=true:=by decide +kernel
noncomputable def aBh:FI:=⟨Tryz.f146,[]⟩
theorem aBi:fnB aBh=true:=by decide +kernel
noncomputable def aBj:FI:=⟨Tryz.f147,[(0,⟨[0,0,0,4,12,28,0,124,0,0,256,1280,3840,7936,16380,32764,65532,65532,1,262145,917503,1966079],128,(.h [0,1,2,3,4,5,6,8,9,10,11,12,13,18,19] (.o 7 (.o 14 (.h [15,16,17,20] (.o 21 .nil)))))⟩)]⟩
theorem aBk:fnB aBj=true:=by decide +kernel
noncomputable def aBl:FI:=⟨Tryz.f148,[]⟩
theorem aBm:fnB aBl=true:=by decide +kernel
noncomputable def aBn:FI:=⟨Tryz.f149,[]⟩
theorem aBo:fnB aBn=true:=by decide +kernel
noncomputable def aBp:FI:=⟨Tryz.f151,[]⟩
theorem aBq:fnB aBp=true:=by decide +kernel
noncomputable def aBr:FI:=⟨Tryz.f152,[]⟩
theorem aBs:fnB aBr=true:=by decide +kernel
noncomputable def aBt:FI:=⟨Tryz.f153,[]⟩
theorem aBu:fnB aBt=true:=by decide +kernel
noncomputable def aBv:FI:=⟨Tryz.f154,[]⟩
theorem aBw:fnB aBv=true:=by decide +kernel
noncomputable def aBx:FI:=⟨Tryz.f155,[]⟩
theorem aBy:fnB aBx=true:=by decide +kernel
noncomputable def aBz:FI:=⟨Tryz.f156,[(2,⟨[0,0,0,0,4,20,60,124,0,256,768,2044,4092,1,8193,32767,65535],0,(.h [0,1,2,3,4,5,6,7,8,9,10,11,12,13,14,15] (.o 16 .nil))⟩)]⟩
theorem aBA:fnB aBz=true:=by decide +kernel
noncomputable def aBB:FI:=⟨Tryz.f157,[]⟩
theorem aBC:fnB aBB=true:=by decide +kernel
noncomputable def aBD:FI:=⟨Tryz.f158,[]⟩
theorem aBE:fnB aBD=true:=by decide +kernel
noncomputable def aBF:FI:=⟨Tryz.f159,[]⟩
theorem aBG:fnB aBF=true:=by decide +kernel
noncomputable def aBH:FI:=⟨Tryz.f160,[]⟩
theorem aBI:fnB aBH=true:=by decide +kernel
noncomputable def aBJ:FI:=⟨Tryz.f161,[]⟩
theorem aBK:fnB aBJ=true:=by decide +kernel
noncomputable def aBL:FI:=⟨Tryz.f162,[(5,⟨[0,1,3,7,0,16,48,112,0,256,768,1792,0,4096,0,16384,49152,114688,0,262144,786432,1835008,0,4194304,12582912,29360128,62926848,0,134217728,402653184,939524096,2143301632,0,4294967296,12884901888,30064771072,68715294720,137438953471,274877906943],70934077440,(.h [0,1,2,3,4,5,6,7,8,9,10,11,12,14,15,16,17,18,19,20,21,22,23,24,25,27,28,29,30,32,33,34,35] (.o 13 (.o 26 (.o 31 (.o 36 (.h [37] (.o 38 .nil)))))))⟩)]⟩
theorem aBM:fnB aBL=true:=by decide +kernel
noncomputable def aBN:FI:=⟨Tryz.f163,[(3,⟨[0,1,3,7,15,0,32,96,224,0,512,1536,3584,7711,0,16384,49152,114688,261663,0,524288,1572864,3670016,8388127,0,16777216,50331648,117440512,268434975,536870911,1073741823,2147483647],277094416,(.h [0,1,2,3,5,6,7,8,9,10,11,12,14,15,16,17,19,20,21,22,24,25,26,27] (.o 4 (.o 13 (.o 18 (.o 23 (.o 28 (.h [29] (.o 30 (.h [31] .nil)))))))))⟩)]⟩
theorem aBO:fnB aBN=true:=by decide +kernel
noncomputable def aBP:FI:=⟨Tryz.f164,[]⟩
theorem aBQ:fnB aBP=true:=by decide +kernel
noncomputable def aBR:FI:=⟨Tryz.f165,[]⟩
theorem aBS:fnB aBR=true:=by decide +kernel
noncomputable def aBT:FI:=⟨Tryz.f166,[]⟩
theorem aBU:fnB aBT=true:=by decide +kernel
noncomputable def aBV:FI:=⟨Tryz.f167,[]⟩
theorem aBW:fnB aBV=true:=by decide +kernel
noncomputable def aBX:FI:=⟨Tryz.f168,[]⟩
theorem aBY:fnB aBX=true:=by decide +kernel
noncomputable def aBZ:FI:=⟨Tryz.f181,[]⟩
theorem aB0:fnB aBZ=true:=by decide +kernel
noncomputable def aB1:FI:=⟨Tryz.f185,[]⟩
theorem aB2:fnB aB1=true:=by decide +kernel
noncomputable def aB3:FI:=⟨Tryz.f186,[]⟩
theorem aB4:fnB aB3=true:=by decide +kernel
noncomputable def aB5:FI:=⟨Tryz.f194,[]⟩
theorem aB6:fnB aB5=true:=by decide +kernel
noncomputable def aB7:FI:=⟨Tryz.f195,[(6,⟨[0,0,0,7,15,31],4,(.h [0,1] (.o 2 (.h [3] (.o 4 (.h [5] .nil)))))⟩)]⟩
theorem aB8:fnB aB7=true:=by decide +kernel
noncomputable def aB9:FI:=⟨Tryz.f203,[]⟩
theorem aCa:fnB aB9=true:=by decide +kernel
noncomputable def aCb:FI:=⟨Tryz.f206,[]⟩
theorem aCc:fnB aCb=true:=by decide +kernel
noncomputable def aCd:FI:=⟨Tryz.f207,[]⟩
theorem aCe:fnB aCd=true:=by decide +kernel
noncomputable def aCf:FI:=⟨Tryz.f208,[]⟩
theorem aCg:fnB aCf=true:=by decide +kernel
noncomputable def aCh:FI:=⟨Tryz.f210,[]⟩
theorem aCi:fnB aCh=true:=by decide +kernel
noncomputable def aCj:FI:=⟨Tryz.f211,[]⟩
theorem aCk:fnB aCj=true:=by decide +kernel
noncomputable def aCl:FI:=⟨Tryz.f213,[(1,⟨[0,0,0,2,10,30,62,127,255],0,(.h [0,1,2,3,4,5,6] (.o 7 (.o 8 .nil)))⟩)]⟩
theorem aCm:fnB aCl=true:=by decide +kernel
noncomputable def aCn:FI:=⟨Tryz.f214,[(6,⟨[0,1,3,7,15,31,63,127,255,15,527,2047,4095,8191,16383,32767,65535,131071,8191,270335,1048575,2097151,4194303],0,(.h [0,1,2,3,4,5,6,7,8,9,10,11,12,13,14,15,16,17,18,19,20,21,22] .nil)⟩),(12,⟨[0,0,0,0,8,5,37,101,229,511,1023,2047,4095],256,(.h [0,1,2,3,4,5,6,7] (.o 8 (.h [9,10,11] (.o 12 .nil))))⟩)]⟩
theorem aCo:fnB aCn=true:=by decide +kernel
noncomputable def aCp:FI:=⟨Tryz.f215,[(3,⟨[0,1,3,7,15,0,32,96,224,480,992,0,2048,6144,14336,30720,63488,31,133119,524287],393232,(.h [0,1,2,3,5,6,7,8,9,10,11,12,13,14,15,16] (.o 4 (.h [17,18,19] .nil)))⟩)]⟩
theorem aCq:fnB aCp=true:=by decide +kernel
noncomputable def aCr:FI:=⟨Tryz.f220,[]⟩
theorem aCs:fnB aCr=true:=by decide +kernel
noncomputable def aCt:FI:=⟨Tryz.f222,[(3,⟨[0,1,3,7,15,0,0,64,192,448,992,2047,4095,8191],1024,(.h [0,1,2,3,4,6,7,8,9] (.o 5 (.o 10 (.h [11,12,13] .nil))))⟩)]⟩
theorem aCu:fnB aCt=true:=by decide +kernel
noncomputable def aCv:FI:=⟨Tryz.f225,[]⟩
theorem aCw:fnB aCv=true:=by decide +kernel
noncomputable def aCx:FI:=⟨Tryz.f226,[]⟩
theorem aCy:fnB aCx=true:=by decide +kernel
noncomputable def aCz:FI:=⟨Tryz.f227,[]⟩
theorem aCA:fnB aCz=true:=by decide +kernel
noncomputable def aCB:FI:=⟨Tryz.f228,[]⟩
theorem aCC:fnB aCB=true:=by decide +kernel
noncomputable def aCD:FI:=⟨Tryz.f229,[]⟩
theorem aCE:fnB aCD=true:=by decide +kernel
noncomputable def aCF:FI:=⟨Tryz.f230,[(3,⟨[0,1,3,7,15,0,32,96,224,511,1023,2047,4095],16,(.h [0,1,2,3,5,6,7,8] (.o 4 (.o 9 (.h [10] (.o 11 (.h [12] .nil))))))⟩)]⟩
theorem aCG:fnB aCF=true:=by decide +kernel
noncomputable def aCH:FI:=⟨Tryz.f232,[]⟩
theorem aCI:fnB aCH=true:=by decide +kernel
noncomputable def aCJ:FI:=⟨Tryz.f233,[(3,⟨[0,1,3,7,0,16,48,112,240,511,1023,2047],256,(.h [0,1,2,3,4,5,6,7] (.o 8 (.h [9] (.o 10 (.h [11] .nil)))))⟩)]⟩
theorem aCK:fnB aCJ=true:=by decide +kernel
noncomputable def aCL:FI:=⟨Tryz.f234,[]⟩
theorem aCM:fnB aCL=true:=by decide +kernel
noncomputable def aCN:FI:=⟨Tryz.f235,[(7,⟨[0,0,0,1,9,31,63],0,(.h [0,1,3,4] (.o 2 (.h [5] (.o 6 .nil))))⟩)]⟩
theorem aCO:fnB aCN=true:=by decide +kernel
noncomputable def aCP:FI:=⟨Tryz.f236,[]⟩
theorem aCQ:fnB aCP=true:=by decide +kernel
noncomputable def aCR:FI:=⟨Tryz.f253,[]⟩
theorem aCS:fnB aCR=true:=by decide +kernel
noncomputable def aCT:FI:=⟨Tryz.f254,[]⟩
theorem aCU:fnB aCT=true:=by decide +kernel
noncomputable def aCV:FI:=⟨Tryz.f255,[]⟩
theorem aCW:fnB aCV=true:=by decide +kernel
noncomputable def aCX:FI:=⟨Tryz.f256,[]⟩
theorem aCY:fnB aCX=true:=by decide +kernel
noncomputable def aCZ:FI:=⟨Tryz.f261,[(7,⟨[0,0,0,4,0,28,63,127,255],40,(.h [0,1,2,4] (.o 3 (.o 5 (.h [6] (.o 7 (.h [8] .nil))))))⟩)]⟩
theorem aC0:fnB aCZ=true:=by decide +kernel
noncomputable def aC1:FI:=⟨Tryz.f262,[(7,⟨[0,1,3,7,0,16,0,64,192,448,0,1024,3072,7168,16320,32704,65535,131071,262143],0,(.h [0,1,2,3,4,5,6,7,8,9,10,11,12,13,14,15] (.o 16 (.h [17] (.o 18 .nil))))⟩),(10,⟨[0,1,3,7,0,16,48,112,255,511,1023],0,(.h [0,1,2,3,4,5,6,7] (.o 8 (.h [9] (.o 10 .nil))))⟩)]⟩
theorem aC2:fnB aC1=true:=by decide +kernel
