/- The compact texts of the functions that the law reaches; no condition. -/
import Derived.Test.YtadpenaldhkjcaaGreatK0
set_option linter.all false
namespace Go.Pe
open Go
@[simp] theorem y1m:zad T zo7=[]:=zaf z7f
theorem z7g:T zlv=some (zaa zxh zxi []):=rfl
@[simp] theorem y1n:zad T zlv=[]:=zaf z7g
theorem z1u:T zlw=some (zaa zso zsp []):=rfl
@[simp] theorem y1o:zad T zlw=[]:=zaf z1u
theorem z7h:T zlx=some (zaa zxj zxk []):=rfl
@[simp] theorem y1p:zad T zlx=[]:=zaf z7h
theorem z7i:T zly=some (zaa zxl zxm []):=rfl
@[simp] theorem y1q:zad T zly=[]:=zaf z7i
theorem z7j:T zo8=some (zaa zxn zxo []):=rfl
@[simp] theorem y1r:zad T zo8=[]:=zaf z7j
theorem z7k:T zlz=some (zaa zsq zsr []):=rfl
@[simp] theorem y1s:zad T zlz=[]:=zaf z7k
theorem z7l:T zo9=some (zaa zxp zxq []):=rfl
@[simp] theorem y1t:zad T zo9=[]:=zaf z7l
theorem z7m:T zl0=some (zaa zxr zxs []):=rfl
@[simp] theorem y1u:zad T zl0=[]:=zaf z7m
theorem z7n:T zpa=some (zaa zxt zxu []):=rfl
@[simp] theorem y1v:zad T zpa=[]:=zaf z7n
theorem z7o:T zl1=some (zaa zxv zxw []):=rfl
@[simp] theorem y1w:zad T zl1=[]:=zaf z7o
theorem z7p:T zpb=some (zaa zxy zxz []):=rfl
@[simp] theorem y1x:zad T zpb=[]:=zaf z7p
theorem z7q:T zpc=some (zaa zst zkm [true]):=rfl
@[simp] theorem y1y:zad T zpc=[true]:=zaf z7q
theorem z7r:T zha=some (zaa zsu zsv [true]):=rfl
@[simp] theorem y1z:zad T zha=[true]:=zaf z7r
theorem z7s:T zj6=some (zaa zqc zqd [true]):=rfl
@[simp] theorem y10:zad T zj6=[true]:=zaf z7s
theorem z7t:T zj7=some (zaa zx1 zx2 []):=rfl
@[simp] theorem y11:zad T zj7=[]:=zaf z7t
theorem z7u:T zpd=some (zaa zx3 zx4 []):=rfl
@[simp] theorem y12:zad T zpd=[]:=zaf z7u
theorem z7v:T zl2=some (zaa zi1 zi2 []):=rfl
@[simp] theorem y13:zad T zl2=[]:=zaf z7v
theorem z7w:T zj8=some (zaa zx5 zx6 []):=rfl
@[simp] theorem y14:zad T zj8=[]:=zaf z7w
theorem z7x:T zpe=some (zaa zsw zsx []):=rfl
@[simp] theorem y15:zad T zpe=[]:=zaf z7x
theorem z7y:T zpf=some (zaa zx7 zx8 []):=rfl
@[simp] theorem y16:zad T zpf=[]:=zaf z7y
theorem z7z:T zj9=some (zaa zx9 zya []):=rfl
@[simp] theorem y17:zad T zj9=[]:=zaf z7z
theorem z70:T zpg=some (zaa zsy zsz []):=rfl
@[simp] theorem y18:zad T zpg=[]:=zaf z70
theorem z71:T zph=some (zaa zs0 zs1 []):=rfl
@[simp] theorem y19:zad T zph=[]:=zaf z71
theorem z72:T zpi=some (zaa zyb zyc []):=rfl
@[simp] theorem y2a:zad T zpi=[]:=zaf z72
theorem z73:T zl3=some (zaa zyd zye []):=rfl
@[simp] theorem y2b:zad T zl3=[]:=zaf z73
theorem z74:T zpj=some (zaa zyf zyg []):=rfl
@[simp] theorem y2c:zad T zpj=[]:=zaf z74
theorem z75:T zka=some (zaa zyh zyi []):=rfl
@[simp] theorem y2d:zad T zka=[]:=zaf z75
theorem z76:T zpk=some (zaa zyj zyk []):=rfl
@[simp] theorem y2e:zad T zpk=[]:=zaf z76
theorem z77:T zl4=some (zaa zyl zym []):=rfl
@[simp] theorem y2f:zad T zl4=[]:=zaf z77
theorem z78:T zpl=some (zaa zs2 zs3 []):=rfl
@[simp] theorem y2g:zad T zpl=[]:=zaf z78
theorem z79:T zl5=some (zaa zyn zyo []):=rfl
@[simp] theorem y2h:zad T zl5=[]:=zaf z79
theorem z8a:T zpm=some (zaa zyp zyq []):=rfl
@[simp] theorem y2i:zad T zpm=[]:=zaf z8a
theorem z8b:T zpn=some (zaa zi3 zi4 []):=rfl
@[simp] theorem y2j:zad T zpn=[]:=zaf z8b
theorem z8c:T zpo=some (zaa zyr zys []):=rfl
@[simp] theorem y2k:zad T zpo=[]:=zaf z8c
theorem z8d:T zpp=some (zaa zyt zyu []):=rfl
@[simp] theorem y2l:zad T zpp=[]:=zaf z8d
theorem z8e:T zpq=some (zaa zyw zyx []):=rfl
@[simp] theorem y2m:zad T zpq=[]:=zaf z8e
theorem z8f:T zl6=some (zaa zi5 zi6 []):=rfl
@[simp] theorem y2n:zad T zl6=[]:=zaf z8f
theorem z8g:T zl7=some (zaa zyy zyz []):=rfl
@[simp] theorem y2o:zad T zl7=[]:=zaf z8g
theorem z8h:T zl8=some (zaa zqg zqh []):=rfl
@[simp] theorem y2p:zad T zl8=[]:=zaf z8h
theorem z8i:T zl9=some (zaa zkn zko []):=rfl
@[simp] theorem y2q:zad T zl9=[]:=zaf z8i
theorem z8j:T zpr=some (zaa zy0 zy1 []):=rfl
@[simp] theorem y2r:zad T zpr=[]:=zaf z8j
theorem z8k:T zkb=some (zaa zqi zqj []):=rfl
@[simp] theorem y2s:zad T zkb=[]:=zaf z8k
theorem z8l:T zps=some (zaa zi7 zi8 []):=rfl
@[simp] theorem y2t:zad T zps=[]:=zaf z8l
theorem z8m:T zma=some (zaa zy2 zy3 []):=rfl
@[simp] theorem y2u:zad T zma=[]:=zaf z8m
theorem z8n:T zpt=some (zaa zy4 zy5 []):=rfl
@[simp] theorem y2v:zad T zpt=[]:=zaf z8n
theorem z8o:T zkc=some (zaa zy6 zy7 []):=rfl
@[simp] theorem y2w:zad T zkc=[]:=zaf z8o
theorem z8p:T zmb=some (zaa zhf zhg []):=rfl
@[simp] theorem y2x:zad T zmb=[]:=zaf z8p
theorem z8q:T zgi=some (zaa zqk zql []):=rfl
@[simp] theorem y2y:zad T zgi=[]:=zaf z8q
theorem z8r:T zkd=some (zaa zy8 zy9 []):=rfl
@[simp] theorem y2z:zad T zkd=[]:=zaf z8r
theorem z8s:T zmc=some (zaa zza zzb []):=rfl
@[simp] theorem y20:zad T zmc=[]:=zaf z8s
theorem z8t:T zpu=some (zaa zzc zzd []):=rfl
@[simp] theorem y21:zad T zpu=[]:=zaf z8t
theorem z8u:T zpv=some (zaa zfj zfk []):=rfl
@[simp] theorem y22:zad T zpv=[]:=zaf z8u
theorem z8v:T ziw=some (zaa zze zzf []):=rfl
@[simp] theorem y23:zad T ziw=[]:=zaf z8v
theorem z8w:T zpw=some (zaa zzg zzh []):=rfl
@[simp] theorem y24:zad T zpw=[]:=zaf z8w
theorem z8x:T zmd=some (zaa zhh zhi []):=rfl
@[simp] theorem y25:zad T zmd=[]:=zaf z8x
theorem z8y:T zix=some (zaa zs6 zs7 []):=rfl
@[simp] theorem y26:zad T zix=[]:=zaf z8y
theorem z8z:T zke=some (zaa zkp zkq []):=rfl
@[simp] theorem y27:zad T zke=[]:=zaf z8z
theorem z80:T zme=some (zaa zqm zqn []):=rfl
@[simp] theorem y28:zad T zme=[]:=zaf z80
theorem z81:T zmf=some (zaa zzi zzj []):=rfl
@[simp] theorem y29:zad T zmf=[]:=zaf z81
theorem z82:T zmg=some (zaa zzl zzm []):=rfl
@[simp] theorem y3a:zad T zmg=[]:=zaf z82
theorem z83:T zpx=some (zaa zzn zzo []):=rfl
@[simp] theorem y3b:zad T zpx=[]:=zaf z83
theorem z84:T zmh=some (zaa zzp zzq []):=rfl
@[simp] theorem y3c:zad T zmh=[]:=zaf z84
theorem z85:T zhb=some (zaa zm3 zm4 []):=rfl
@[simp] theorem y3d:zad T zhb=[]:=zaf z85
theorem z86:T zkf=some (.ext zq3):=rfl
@[simp] theorem y3e:zad T zkf=[]:=rfl
theorem z1v:T ziy=some (.ext zqz):=rfl
@[simp] theorem y3f:zad T ziy=[]:=rfl
theorem z87:T zkg=some (zaa zzr zzs []):=rfl
@[simp] theorem y3g:zad T zkg=[]:=zaf z87
theorem z88:T zkh=some (zaa zzt zzu []):=rfl
@[simp] theorem y3h:zad T zkh=[]:=zaf z88
theorem z89:T zmi=some (zaa zqo zqp []):=rfl
@[simp] theorem y3i:zad T zmi=[]:=zaf z89
theorem z9a:T zhc=some (zaa zm5 zm6 []):=rfl
@[simp] theorem y3j:zad T zhc=[]:=zaf z9a
theorem z9b:T zpy=some (zaa zzv zzw []):=rfl
@[simp] theorem y3k:zad T zpy=[]:=zaf z9b
theorem z9c:T zki=some (zaa zzx zzy []):=rfl
@[simp] theorem y3l:zad T zki=[]:=zaf z9c
theorem z9d:T zkj=some (zaa zzz zz0 []):=rfl
@[simp] theorem y3m:zad T zkj=[]:=zaf z9d
theorem z9e:T zmj=some (zaa zz1 zz2 []):=rfl
@[simp] theorem y3n:zad T zmj=[]:=zaf z9e
end Go.Pe
