/- The compact texts of the functions that the law reaches; no condition. -/
import Derived.Test.YtadpenaldhkjcaaGreatK0
set_option linter.all false
namespace Go.Pe
open Go
@[simp] theorem y1f : zad T zo6 = [] := zaf z7d
theorem z7e : T zlu = some (zaa zxg zxh []) := rfl
@[simp] theorem y1g : zad T zlu = [] := zaf z7e
theorem z1s : T zlv = some (zaa zsl zsm []) := rfl
@[simp] theorem y1h : zad T zlv = [] := zaf z1s
theorem z7f : T zlw = some (zaa zxi zxj []) := rfl
@[simp] theorem y1i : zad T zlw = [] := zaf z7f
theorem z7g : T zlx = some (zaa zxk zxl []) := rfl
@[simp] theorem y1j : zad T zlx = [] := zaf z7g
theorem z7h : T zo7 = some (zaa zxm zxn []) := rfl
@[simp] theorem y1k : zad T zo7 = [] := zaf z7h
theorem z7i : T zly = some (zaa zsn zso []) := rfl
@[simp] theorem y1l : zad T zly = [] := zaf z7i
theorem z7j : T zo8 = some (zaa zxo zxp []) := rfl
@[simp] theorem y1m : zad T zo8 = [] := zaf z7j
theorem z7k : T zlz = some (zaa zxq zxr []) := rfl
@[simp] theorem y1n : zad T zlz = [] := zaf z7k
theorem z7l : T zo9 = some (zaa zxs zxt []) := rfl
@[simp] theorem y1o : zad T zo9 = [] := zaf z7l
theorem z7m : T zl0 = some (zaa zxu zxv []) := rfl
@[simp] theorem y1p : zad T zl0 = [] := zaf z7m
theorem z7n : T zpa = some (zaa zxx zxy []) := rfl
@[simp] theorem y1q : zad T zpa = [] := zaf z7n
theorem z7o : T zpb = some (zaa zsq zkl [true]) := rfl
@[simp] theorem y1r : zad T zpb = [true] := zaf z7o
theorem z7p : T zg9 = some (zaa zsr zss [true]) := rfl
@[simp] theorem y1s : zad T zg9 = [true] := zaf z7p
theorem z7q : T zj5 = some (zaa zqb zqc [true]) := rfl
@[simp] theorem y1t : zad T zj5 = [true] := zaf z7q
theorem z7r : T zj6 = some (zaa zx0 zx1 []) := rfl
@[simp] theorem y1u : zad T zj6 = [] := zaf z7r
theorem z7s : T zpc = some (zaa zx2 zx3 []) := rfl
@[simp] theorem y1v : zad T zpc = [] := zaf z7s
theorem z7t : T zl1 = some (zaa zi0 zi1 []) := rfl
@[simp] theorem y1w : zad T zl1 = [] := zaf z7t
theorem z7u : T zj7 = some (zaa zx4 zx5 []) := rfl
@[simp] theorem y1x : zad T zj7 = [] := zaf z7u
theorem z7v : T zpd = some (zaa zst zsu []) := rfl
@[simp] theorem y1y : zad T zpd = [] := zaf z7v
theorem z7w : T zpe = some (zaa zx6 zx7 []) := rfl
@[simp] theorem y1z : zad T zpe = [] := zaf z7w
theorem z7x : T zj8 = some (zaa zx8 zx9 []) := rfl
@[simp] theorem y10 : zad T zj8 = [] := zaf z7x
theorem z7y : T zpf = some (zaa zsv zsw []) := rfl
@[simp] theorem y11 : zad T zpf = [] := zaf z7y
theorem z7z : T zpg = some (zaa zsx zsy []) := rfl
@[simp] theorem y12 : zad T zpg = [] := zaf z7z
theorem z70 : T zph = some (zaa zya zyb []) := rfl
@[simp] theorem y13 : zad T zph = [] := zaf z70
theorem z71 : T zl2 = some (zaa zyc zyd []) := rfl
@[simp] theorem y14 : zad T zl2 = [] := zaf z71
theorem z72 : T zpi = some (zaa zye zyf []) := rfl
@[simp] theorem y15 : zad T zpi = [] := zaf z72
theorem z73 : T zj9 = some (zaa zyg zyh []) := rfl
@[simp] theorem y16 : zad T zj9 = [] := zaf z73
theorem z74 : T zpj = some (zaa zyi zyj []) := rfl
@[simp] theorem y17 : zad T zpj = [] := zaf z74
theorem z75 : T zl3 = some (zaa zyk zyl []) := rfl
@[simp] theorem y18 : zad T zl3 = [] := zaf z75
theorem z76 : T zpk = some (zaa zsz zs0 []) := rfl
@[simp] theorem y19 : zad T zpk = [] := zaf z76
theorem z77 : T zl4 = some (zaa zym zyn []) := rfl
@[simp] theorem y2a : zad T zl4 = [] := zaf z77
theorem z78 : T zpl = some (zaa zyo zyp []) := rfl
@[simp] theorem y2b : zad T zpl = [] := zaf z78
theorem z79 : T zpm = some (zaa zi2 zi3 []) := rfl
@[simp] theorem y2c : zad T zpm = [] := zaf z79
theorem z8a : T zpn = some (zaa zyq zyr []) := rfl
@[simp] theorem y2d : zad T zpn = [] := zaf z8a
theorem z8b : T zpo = some (zaa zys zyt []) := rfl
@[simp] theorem y2e : zad T zpo = [] := zaf z8b
theorem z8c : T zpp = some (zaa zyv zyw []) := rfl
@[simp] theorem y2f : zad T zpp = [] := zaf z8c
theorem z8d : T zl5 = some (zaa zi4 zi5 []) := rfl
@[simp] theorem y2g : zad T zl5 = [] := zaf z8d
theorem z8e : T zl6 = some (zaa zyx zyy []) := rfl
@[simp] theorem y2h : zad T zl6 = [] := zaf z8e
theorem z8f : T zl7 = some (zaa zqf zqg []) := rfl
@[simp] theorem y2i : zad T zl7 = [] := zaf z8f
theorem z8g : T zl8 = some (zaa zkm zkn []) := rfl
@[simp] theorem y2j : zad T zl8 = [] := zaf z8g
theorem z8h : T zpq = some (zaa zyz zy0 []) := rfl
@[simp] theorem y2k : zad T zpq = [] := zaf z8h
theorem z8i : T zka = some (zaa zqh zqi []) := rfl
@[simp] theorem y2l : zad T zka = [] := zaf z8i
theorem z8j : T zpr = some (zaa zi6 zi7 []) := rfl
@[simp] theorem y2m : zad T zpr = [] := zaf z8j
theorem z8k : T zl9 = some (zaa zy1 zy2 []) := rfl
@[simp] theorem y2n : zad T zl9 = [] := zaf z8k
theorem z8l : T zps = some (zaa zy3 zy4 []) := rfl
@[simp] theorem y2o : zad T zps = [] := zaf z8l
theorem z8m : T zkb = some (zaa zy5 zy6 []) := rfl
@[simp] theorem y2p : zad T zkb = [] := zaf z8m
theorem z8n : T zma = some (zaa zhe zhf []) := rfl
@[simp] theorem y2q : zad T zma = [] := zaf z8n
theorem z8o : T zgh = some (zaa zqj zqk []) := rfl
@[simp] theorem y2r : zad T zgh = [] := zaf z8o
theorem z8p : T zkc = some (zaa zy7 zy8 []) := rfl
@[simp] theorem y2s : zad T zkc = [] := zaf z8p
theorem z8q : T zmb = some (zaa zy9 zza []) := rfl
@[simp] theorem y2t : zad T zmb = [] := zaf z8q
theorem z8r : T zpt = some (zaa zzb zzc []) := rfl
@[simp] theorem y2u : zad T zpt = [] := zaf z8r
theorem z8s : T zpu = some (zaa zfi zfj []) := rfl
@[simp] theorem y2v : zad T zpu = [] := zaf z8s
theorem z8t : T ziv = some (zaa zzd zze []) := rfl
@[simp] theorem y2w : zad T ziv = [] := zaf z8t
theorem z8u : T zpv = some (zaa zzf zzg []) := rfl
@[simp] theorem y2x : zad T zpv = [] := zaf z8u
theorem z8v : T zmc = some (zaa zhg zhh []) := rfl
@[simp] theorem y2y : zad T zmc = [] := zaf z8v
theorem z8w : T ziw = some (zaa zs3 zs4 []) := rfl
@[simp] theorem y2z : zad T ziw = [] := zaf z8w
theorem z8x : T zkd = some (zaa zko zkp []) := rfl
@[simp] theorem y20 : zad T zkd = [] := zaf z8x
theorem z8y : T zmd = some (zaa zql zqm []) := rfl
@[simp] theorem y21 : zad T zmd = [] := zaf z8y
theorem z8z : T zme = some (zaa zzh zzi []) := rfl
@[simp] theorem y22 : zad T zme = [] := zaf z8z
theorem z80 : T zmf = some (zaa zzk zzl []) := rfl
@[simp] theorem y23 : zad T zmf = [] := zaf z80
theorem z81 : T zpw = some (zaa zzm zzn []) := rfl
@[simp] theorem y24 : zad T zpw = [] := zaf z81
theorem z82 : T zmg = some (zaa zzo zzp []) := rfl
@[simp] theorem y25 : zad T zmg = [] := zaf z82
theorem z83 : T zha = some (zaa zm2 zm3 []) := rfl
@[simp] theorem y26 : zad T zha = [] := zaf z83
theorem z84 : T zke = some (.ext zqu) := rfl
@[simp] theorem y27 : zad T zke = [] := rfl
theorem z1t : T zix = some (.ext zrm) := rfl
@[simp] theorem y28 : zad T zix = [] := rfl
theorem z85 : T zkf = some (zaa zzq zzr []) := rfl
@[simp] theorem y29 : zad T zkf = [] := zaf z85
theorem z86 : T zkg = some (zaa zzs zzt []) := rfl
@[simp] theorem y3a : zad T zkg = [] := zaf z86
theorem z87 : T zmh = some (zaa zqn zqo []) := rfl
@[simp] theorem y3b : zad T zmh = [] := zaf z87
theorem z88 : T zhb = some (zaa zm4 zm5 []) := rfl
@[simp] theorem y3c : zad T zhb = [] := zaf z88
theorem z89 : T zpx = some (zaa zzu zzv []) := rfl
@[simp] theorem y3d : zad T zpx = [] := zaf z89
theorem z9a : T zkh = some (zaa zzw zzx []) := rfl
@[simp] theorem y3e : zad T zkh = [] := zaf z9a
theorem z9b : T zki = some (zaa zzy zzz []) := rfl
@[simp] theorem y3f : zad T zki = [] := zaf z9b
theorem z9c : T zmi = some (zaa zz0 zz1 []) := rfl
@[simp] theorem y3g : zad T zmi = [] := zaf z9c
end Go.Pe
