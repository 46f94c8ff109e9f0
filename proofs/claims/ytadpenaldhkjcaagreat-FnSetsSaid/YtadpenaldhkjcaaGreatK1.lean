/- The compact texts of the functions that the law reaches; no condition. -/
import Derived.Test.YtadpenaldhkjcaaGreatK0
set_option linter.all false
namespace Go.Pe
open Go
def tbl:List (Nat×Fun):=[
 (zsm,zaa zqp zqq []),
 (zoq,zaa zvu zvv []),
 (zor,zaa zqr zqs []),
 (zos,zaa zqt zqu []),
 (zot,zaa zvw zvx []),
 (zkj,zaa zvy zvz []),
 (zou,zaa zv0 zv1 []),
 (zl0,zaa zm7 zm8 []),
 (zkk,zaa zm9 zna []),
 (zov,zaa zso zsp []),
 (zkl,zaa zqv zqw []),
 (zow,zaa zv2 zv3 []),
 (zox,zaa zv4 zv5 []),
 (zoy,zaa zsq zsr []),
 (zoz,zaa zss zst []),
 (zo0,zaa zv6 zv7 []),
 (zo1,zaa zsu zsv []),
 (zo2,zaa zv8 zv9 []),
 (zik,zaa znb znc []),
 (zo3,zaa zwa zwb []),
 (zo4,zaa zwd zwe []),
 (zen,zaa zwf zwg [true]),
 (zo5,zaa zsw zsx []),
 (zo6,zaa zwj zwk []),
 (zo7,zaa zwm zwn []),
 (zo8,zaa zsy zsz []),
 (zo9,zaa zwp zwq []),
 (zpa,zaa zws zwt []),
 (zbz,zaa zwu zwv []),
 (zkm,zaa zww zwx []),
 (zl1,zaa zwy zwz []),
 (zpb,zaa zs1 zs2 []),
 (zkn,zaa zs3 zs4 []),
 (zpc,zaa zw0 zw1 []),
 (zl2,zaa znf zng []),
 (zl3,zaa zw2 zw3 []),
 (zi6,zaa zs5 zs6 []),
 (zl4,zaa zni znj []),
 (zil,zaa zs7 zs8 []),
 (zim,zaa zs9 zta []),
 (zl5,zaa zw4 zw5 []),
 (zch,zaa zw6 zw7 []),
 (zl6,zaa zw8 zw9 []),
 (zl7,zaa zxa zxb []),
 (zi7,zaa ztb ztc []),
 (zi8,zaa zxc zxd []),
 (zl8,zaa zqy zqz []),
 (zko,zaa zxe zxf []),
 (zl9,zaa zxg zxh []),
 (zpd,zaa zxi zxj []),
 (zma,zaa zte ztf []),
 (zpe,zaa zxk zxl []),
 (zmb,zaa zxm zxn []),
 (zpf,zaa zq0 zq1 []),
 (zmc,zaa ztg zth []),
 (zkp,zaa zti ztj []),
 (zpg,zaa ztk ztl []),
 (zkq,zaa zq3 zq4 []),
 (zph,zaa zxr zxs []),
 (zmd,zaa zxt zxu [true]),
 (zbt,zaa zq5 zq6 [true]),
 (zpi,zaa zxw zxx [true]),
 (ze4,zaa zxy zxz [true,true,true]),
 (zme,zaa znk znl [true]),
 (zpj,zaa zg1 zg2 [true]),
 (zpk,zaa zhp zhq [true]),
 (zpl,zaa znm znn [true]),
 (zpm,zaa ztm ztn []),
 (zkr,zaa zx0 zx1 []),
 (zpn,zaa zx3 zx4 []),
 (zpo,zaa zx5 zx6 []),
 (zpp,zaa zto ztp []),
 (zi9,zaa zx7 zx8 []),
 (zks,zaa zx9 zya []),
 (zpq,zaa zyc zyd []),
 (zmf,zaa zk9 zla []),
 (zmg,zaa zye zyf []),
 (zpr,zaa zyg zyh []),
 (zkt,zaa zyi zyj []),
 (zps,zaa zyk zyl []),
 (zku,zaa ztq ztr []),
 (zmh,zaa zym zyn []),
 (zpt,zaa zyo zyp []),
 (zpu,zaa zyq zyr []),
 (zpv,zaa zys zyt []),
 (zpw,zaa zyu zyv []),
 (zpx,zaa zyw zyx []),
 (zmi,zaa zyy zyz []),
 (zmj,zaa zts ztt []),
 (zmk,zaa zy0 zy1 []),
 (zml,zaa zy2 zy3 []),
 (zpy,zaa zy4 zy5 []),
 (zmm,zaa ztu ztv []),
 (zpz,zaa zy6 zy7 []),
 (zmn,zaa zy8 zy9 []),
 (zp0,zaa zza zzb []),
 (zmo,zaa zzc zzd []),
 (zp1,zaa zzf zzg []),
 (zp2,zaa ztx zlb [true]),
 (zhm,zaa zty ztz [true]),
 (zkv,zaa zq7 zq8 [true]),
 (zkw,zaa zzi zzj []),
 (zp3,zaa zzk zzl []),
 (zmp,zaa zjg zjh []),
 (zkx,zaa zzm zzn []),
 (zp4,zaa zt0 zt1 []),
 (zp5,zaa zzo zzp []),
 (zky,zaa zzq zzr []),
 (zp6,zaa zt2 zt3 []),
 (zp7,zaa zt4 zt5 []),
 (zp8,zaa zzs zzt []),
 (zmq,zaa zzu zzv []),
 (zp9,zaa zzw zzx []),
 (zkz,zaa zzy zzz []),
 (zqa,zaa zz0 zz1 []),
 (zmr,zaa zz2 zz3 []),
 (zqb,zaa zt6 zt7 []),
 (zms,zaa zz4 zz5 []),
 (zqc,zaa zz6 zz7 []),
 (zqd,zaa zji zjj []),
 (zqe,zaa zz8 zz9 []),
 (zqf,zaa z0a z0b []),
 (zqg,zaa z0d z0e []),
 (zmt,zaa zjk zjl []),
 (zmu,zaa z0f z0g []),
 (zmv,zaa zrb zrc []),
 (zmw,zaa zlc zld []),
 (zqh,zaa z0h z0i []),
 (zk0,zaa zrd zre []),
 (zqi,zaa zjm zjn []),
 (zmx,zaa z0j z0k []),
 (zqj,zaa z0l z0m []),
 (zk1,zaa z0n z0o []),
 (zmy,zaa zhr zhs []),
 (zg0,zaa zrf zrg []),
 (zk2,zaa z0p z0q []),
 (zmz,zaa z0r z0s []),
 (zqk,zaa z0t z0u []),
 (zql,zaa zfw zfx []),
 (zja,zaa z0v z0w []),
 (zqm,zaa z0x z0y []),
 (zm0,zaa zht zhu []),
 (zjb,zaa zua zub []),
 (zk3,zaa zle zlf []),
 (zm1,zaa zrh zri []),
 (zm2,zaa z0z z00 []),
 (zm3,zaa z02 z03 []),
 (zqn,zaa z04 z05 []),
 (zm4,zaa z06 z07 []),
 (zhn,zaa znq znr []),
 (zk4,.ext zrn),
 (zjc,.ext zro),
 (zk5,zaa z08 z09 []),
 (zk6,zaa z1a z1b []),
 (zm5,zaa zrj zrk []),
 (zho,zaa zns znt []),
 (zqo,zaa z1c z1d []),
 (zk7,zaa z1e z1f []),
 (zk8,zaa z1g z1h []),
 (zm6,zaa z1i z1j [])]
def T:zc2:=fun f=>(tbl.find? fun q=>q.1 == f).map fun q=>q.2
theorem zud:T zsm=some (zaa zqp zqq []):=rfl
@[simp] theorem y3e:zad T zsm=[]:=zaf zud
theorem z7s:T zoq=some (zaa zvu zvv []):=rfl
@[simp] theorem y3f:zad T zoq=[]:=zaf z7s
theorem z7t:T zor=some (zaa zqr zqs []):=rfl
@[simp] theorem y3g:zad T zor=[]:=zaf z7t
theorem z7u:T zos=some (zaa zqt zqu []):=rfl
@[simp] theorem y3h:zad T zos=[]:=zaf z7u
theorem z7v:T zot=some (zaa zvw zvx []):=rfl
@[simp] theorem y3i:zad T zot=[]:=zaf z7v
theorem z7w:T zkj=some (zaa zvy zvz []):=rfl
@[simp] theorem y3j:zad T zkj=[]:=zaf z7w
theorem z7x:T zou=some (zaa zv0 zv1 []):=rfl
@[simp] theorem y3k:zad T zou=[]:=zaf z7x
theorem z7y:T zl0=some (zaa zm7 zm8 []):=rfl
@[simp] theorem y3l:zad T zl0=[]:=zaf z7y
theorem z7z:T zkk=some (zaa zm9 zna []):=rfl
@[simp] theorem y3m:zad T zkk=[]:=zaf z7z
theorem z3p:T zov=some (zaa zso zsp []):=rfl
@[simp] theorem y3n:zad T zov=[]:=zaf z3p
theorem z70:T zkl=some (zaa zqv zqw []):=rfl
@[simp] theorem y3o:zad T zkl=[]:=zaf z70
theorem z71:T zow=some (zaa zv2 zv3 []):=rfl
@[simp] theorem y3p:zad T zow=[]:=zaf z71
theorem z72:T zox=some (zaa zv4 zv5 []):=rfl
@[simp] theorem y3q:zad T zox=[]:=zaf z72
theorem z73:T zoy=some (zaa zsq zsr []):=rfl
@[simp] theorem y3r:zad T zoy=[]:=zaf z73
theorem z3q:T zoz=some (zaa zss zst []):=rfl
@[simp] theorem y3s:zad T zoz=[]:=zaf z3q
theorem z74:T zo0=some (zaa zv6 zv7 []):=rfl
@[simp] theorem y3t:zad T zo0=[]:=zaf z74
theorem z3r:T zo1=some (zaa zsu zsv []):=rfl
@[simp] theorem y3u:zad T zo1=[]:=zaf z3r
theorem z75:T zo2=some (zaa zv8 zv9 []):=rfl
@[simp] theorem y3v:zad T zo2=[]:=zaf z75
theorem zue:T zik=some (zaa znb znc []):=rfl
@[simp] theorem y3w:zad T zik=[]:=zaf zue
theorem z76:T zo3=some (zaa zwa zwb []):=rfl
@[simp] theorem y3x:zad T zo3=[]:=zaf z76
theorem z77:T zo4=some (zaa zwd zwe []):=rfl
@[simp] theorem y3y:zad T zo4=[]:=zaf z77
theorem z78:T zen=some (zaa zwf zwg [true]):=rfl
@[simp] theorem y3z:zad T zen=[true]:=zaf z78
theorem z79:T zo5=some (zaa zsw zsx []):=rfl
@[simp] theorem y30:zad T zo5=[]:=zaf z79
theorem z8a:T zo6=some (zaa zwj zwk []):=rfl
@[simp] theorem y31:zad T zo6=[]:=zaf z8a
theorem z8b:T zo7=some (zaa zwm zwn []):=rfl
@[simp] theorem y32:zad T zo7=[]:=zaf z8b
theorem z8c:T zo8=some (zaa zsy zsz []):=rfl
@[simp] theorem y33:zad T zo8=[]:=zaf z8c
theorem z8d:T zo9=some (zaa zwp zwq []):=rfl
@[simp] theorem y34:zad T zo9=[]:=zaf z8d
theorem z8e:T zpa=some (zaa zws zwt []):=rfl
@[simp] theorem y35:zad T zpa=[]:=zaf z8e
theorem z8f:T zbz=some (zaa zwu zwv []):=rfl
@[simp] theorem y36:zad T zbz=[]:=zaf z8f
theorem z8g:T zkm=some (zaa zww zwx []):=rfl
@[simp] theorem y37:zad T zkm=[]:=zaf z8g
theorem z8h:T zl1=some (zaa zwy zwz []):=rfl
@[simp] theorem y38:zad T zl1=[]:=zaf z8h
theorem z8i:T zpb=some (zaa zs1 zs2 []):=rfl
@[simp] theorem y39:zad T zpb=[]:=zaf z8i
theorem z8j:T zkn=some (zaa zs3 zs4 []):=rfl
@[simp] theorem y4a:zad T zkn=[]:=zaf z8j
theorem z8k:T zpc=some (zaa zw0 zw1 []):=rfl
@[simp] theorem y4b:zad T zpc=[]:=zaf z8k
theorem z8l:T zl2=some (zaa znf zng []):=rfl
@[simp] theorem y4c:zad T zl2=[]:=zaf z8l
theorem z8m:T zl3=some (zaa zw2 zw3 []):=rfl
@[simp] theorem y4d:zad T zl3=[]:=zaf z8m
theorem z8n:T zi6=some (zaa zs5 zs6 []):=rfl
@[simp] theorem y4e:zad T zi6=[]:=zaf z8n
theorem z8o:T zl4=some (zaa zni znj []):=rfl
@[simp] theorem y4f:zad T zl4=[]:=zaf z8o
theorem z8p:T zil=some (zaa zs7 zs8 []):=rfl
@[simp] theorem y4g:zad T zil=[]:=zaf z8p
theorem z3s:T zim=some (zaa zs9 zta []):=rfl
@[simp] theorem y4h:zad T zim=[]:=zaf z3s
theorem z8q:T zl5=some (zaa zw4 zw5 []):=rfl
@[simp] theorem y4i:zad T zl5=[]:=zaf z8q
theorem z8r:T zch=some (zaa zw6 zw7 []):=rfl
@[simp] theorem y4j:zad T zch=[]:=zaf z8r
theorem z8s:T zl6=some (zaa zw8 zw9 []):=rfl
@[simp] theorem y4k:zad T zl6=[]:=zaf z8s
theorem z8t:T zl7=some (zaa zxa zxb []):=rfl
@[simp] theorem y4l:zad T zl7=[]:=zaf z8t
theorem z8u:T zi7=some (zaa ztb ztc []):=rfl
@[simp] theorem y4m:zad T zi7=[]:=zaf z8u
theorem z8v:T zi8=some (zaa zxc zxd []):=rfl
@[simp] theorem y4n:zad T zi8=[]:=zaf z8v
theorem z8w:T zl8=some (zaa zqy zqz []):=rfl
@[simp] theorem y4o:zad T zl8=[]:=zaf z8w
theorem z8x:T zko=some (zaa zxe zxf []):=rfl
@[simp] theorem y4p:zad T zko=[]:=zaf z8x
theorem z8y:T zl9=some (zaa zxg zxh []):=rfl
@[simp] theorem y4q:zad T zl9=[]:=zaf z8y
theorem z8z:T zpd=some (zaa zxi zxj []):=rfl
@[simp] theorem y4r:zad T zpd=[]:=zaf z8z
theorem z80:T zma=some (zaa zte ztf []):=rfl
@[simp] theorem y4s:zad T zma=[]:=zaf z80
theorem z81:T zpe=some (zaa zxk zxl []):=rfl
@[simp] theorem y4t:zad T zpe=[]:=zaf z81
theorem z82:T zmb=some (zaa zxm zxn []):=rfl
@[simp] theorem y4u:zad T zmb=[]:=zaf z82
theorem z83:T zpf=some (zaa zq0 zq1 []):=rfl
@[simp] theorem y4v:zad T zpf=[]:=zaf z83
theorem z84:T zmc=some (zaa ztg zth []):=rfl
@[simp] theorem y4w:zad T zmc=[]:=zaf z84
theorem z3t:T zkp=some (zaa zti ztj []):=rfl
@[simp] theorem y4x:zad T zkp=[]:=zaf z3t
theorem z3u:T zpg=some (zaa ztk ztl []):=rfl
@[simp] theorem y4y:zad T zpg=[]:=zaf z3u
theorem z1k:T zkq=some (zaa zq3 zq4 []):=rfl
@[simp] theorem y4z:zad T zkq=[]:=zaf z1k
theorem z85:T zph=some (zaa zxr zxs []):=rfl
@[simp] theorem y40:zad T zph=[]:=zaf z85
theorem z86:T zmd=some (zaa zxt zxu [true]):=rfl
@[simp] theorem y41:zad T zmd=[true]:=zaf z86
theorem z87:T zbt=some (zaa zq5 zq6 [true]):=rfl
@[simp] theorem y42:zad T zbt=[true]:=zaf z87
theorem z88:T zpi=some (zaa zxw zxx [true]):=rfl
@[simp] theorem y43:zad T zpi=[true]:=zaf z88
theorem z89:T ze4=some (zaa zxy zxz [true,true,true]):=rfl
@[simp] theorem y44:zad T ze4=[true,true,true]:=zaf z89
theorem z9a:T zme=some (zaa znk znl [true]):=rfl
@[simp] theorem y45:zad T zme=[true]:=zaf z9a
theorem z9b:T zpj=some (zaa zg1 zg2 [true]):=rfl
@[simp] theorem y46:zad T zpj=[true]:=zaf z9b
theorem z9c:T zpk=some (zaa zhp zhq [true]):=rfl
@[simp] theorem y47:zad T zpk=[true]:=zaf z9c
theorem z9d:T zpl=some (zaa znm znn [true]):=rfl
@[simp] theorem y48:zad T zpl=[true]:=zaf z9d
theorem z9e:T zpm=some (zaa ztm ztn []):=rfl
@[simp] theorem y49:zad T zpm=[]:=zaf z9e
theorem z9f:T zkr=some (zaa zx0 zx1 []):=rfl
@[simp] theorem y5a:zad T zkr=[]:=zaf z9f
theorem z9g:T zpn=some (zaa zx3 zx4 []):=rfl
@[simp] theorem y5b:zad T zpn=[]:=zaf z9g
theorem z9h:T zpo=some (zaa zx5 zx6 []):=rfl
@[simp] theorem y5c:zad T zpo=[]:=zaf z9h
theorem z9i:T zpp=some (zaa zto ztp []):=rfl
@[simp] theorem y5d:zad T zpp=[]:=zaf z9i
theorem z9j:T zi9=some (zaa zx7 zx8 []):=rfl
@[simp] theorem y5e:zad T zi9=[]:=zaf z9j
theorem z9k:T zks=some (zaa zx9 zya []):=rfl
@[simp] theorem y5f:zad T zks=[]:=zaf z9k
theorem z9l:T zpq=some (zaa zyc zyd []):=rfl
@[simp] theorem y5g:zad T zpq=[]:=zaf z9l
theorem z9m:T zmf=some (zaa zk9 zla []):=rfl
@[simp] theorem y5h:zad T zmf=[]:=zaf z9m
theorem z9n:T zmg=some (zaa zye zyf []):=rfl
@[simp] theorem y5i:zad T zmg=[]:=zaf z9n
theorem z9o:T zpr=some (zaa zyg zyh []):=rfl
@[simp] theorem y5j:zad T zpr=[]:=zaf z9o
theorem z9p:T zkt=some (zaa zyi zyj []):=rfl
@[simp] theorem y5k:zad T zkt=[]:=zaf z9p
theorem z9q:T zps=some (zaa zyk zyl []):=rfl
@[simp] theorem y5l:zad T zps=[]:=zaf z9q
theorem z9r:T zku=some (zaa ztq ztr []):=rfl
@[simp] theorem y5m:zad T zku=[]:=zaf z9r
theorem z9s:T zmh=some (zaa zym zyn []):=rfl
@[simp] theorem y5n:zad T zmh=[]:=zaf z9s
theorem z9t:T zpt=some (zaa zyo zyp []):=rfl
@[simp] theorem y5o:zad T zpt=[]:=zaf z9t
theorem z9u:T zpu=some (zaa zyq zyr []):=rfl
@[simp] theorem y5p:zad T zpu=[]:=zaf z9u
theorem z9v:T zpv=some (zaa zys zyt []):=rfl
@[simp] theorem y5q:zad T zpv=[]:=zaf z9v
theorem z9w:T zpw=some (zaa zyu zyv []):=rfl
@[simp] theorem y5r:zad T zpw=[]:=zaf z9w
theorem z9x:T zpx=some (zaa zyw zyx []):=rfl
@[simp] theorem y5s:zad T zpx=[]:=zaf z9x
theorem z9y:T zmi=some (zaa zyy zyz []):=rfl
@[simp] theorem y5t:zad T zmi=[]:=zaf z9y
theorem z3v:T zmj=some (zaa zts ztt []):=rfl
@[simp] theorem y5u:zad T zmj=[]:=zaf z3v
theorem z9z:T zmk=some (zaa zy0 zy1 []):=rfl
@[simp] theorem y5v:zad T zmk=[]:=zaf z9z
theorem z90:T zml=some (zaa zy2 zy3 []):=rfl
@[simp] theorem y5w:zad T zml=[]:=zaf z90
theorem z91:T zpy=some (zaa zy4 zy5 []):=rfl
@[simp] theorem y5x:zad T zpy=[]:=zaf z91
theorem z92:T zmm=some (zaa ztu ztv []):=rfl
@[simp] theorem y5y:zad T zmm=[]:=zaf z92
theorem z93:T zpz=some (zaa zy6 zy7 []):=rfl
@[simp] theorem y5z:zad T zpz=[]:=zaf z93
theorem z94:T zmn=some (zaa zy8 zy9 []):=rfl
@[simp] theorem y50:zad T zmn=[]:=zaf z94
theorem z95:T zp0=some (zaa zza zzb []):=rfl
@[simp] theorem y51:zad T zp0=[]:=zaf z95
theorem z96:T zmo=some (zaa zzc zzd []):=rfl
@[simp] theorem y52:zad T zmo=[]:=zaf z96
theorem z97:T zp1=some (zaa zzf zzg []):=rfl
@[simp] theorem y53:zad T zp1=[]:=zaf z97
theorem z98:T zp2=some (zaa ztx zlb [true]):=rfl
@[simp] theorem y54:zad T zp2=[true]:=zaf z98
theorem z99:T zhm=some (zaa zty ztz [true]):=rfl
@[simp] theorem y55:zad T zhm=[true]:=zaf z99
theorem yaa:T zkv=some (zaa zq7 zq8 [true]):=rfl
@[simp] theorem y56:zad T zkv=[true]:=zaf yaa
theorem yab:T zkw=some (zaa zzi zzj []):=rfl
@[simp] theorem y57:zad T zkw=[]:=zaf yab
theorem yac:T zp3=some (zaa zzk zzl []):=rfl
@[simp] theorem y58:zad T zp3=[]:=zaf yac
theorem yad:T zmp=some (zaa zjg zjh []):=rfl
@[simp] theorem y59:zad T zmp=[]:=zaf yad
theorem yae:T zkx=some (zaa zzm zzn []):=rfl
@[simp] theorem y6a:zad T zkx=[]:=zaf yae
theorem yaf:T zp4=some (zaa zt0 zt1 []):=rfl
@[simp] theorem y6b:zad T zp4=[]:=zaf yaf
theorem yag:T zp5=some (zaa zzo zzp []):=rfl
@[simp] theorem y6c:zad T zp5=[]:=zaf yag
theorem yah:T zky=some (zaa zzq zzr []):=rfl
@[simp] theorem y6d:zad T zky=[]:=zaf yah
theorem yai:T zp6=some (zaa zt2 zt3 []):=rfl
@[simp] theorem y6e:zad T zp6=[]:=zaf yai
theorem yaj:T zp7=some (zaa zt4 zt5 []):=rfl
@[simp] theorem y6f:zad T zp7=[]:=zaf yaj
theorem yak:T zp8=some (zaa zzs zzt []):=rfl
@[simp] theorem y6g:zad T zp8=[]:=zaf yak
theorem yal:T zmq=some (zaa zzu zzv []):=rfl
@[simp] theorem y6h:zad T zmq=[]:=zaf yal
theorem yam:T zp9=some (zaa zzw zzx []):=rfl
@[simp] theorem y6i:zad T zp9=[]:=zaf yam
theorem yan:T zkz=some (zaa zzy zzz []):=rfl
@[simp] theorem y6j:zad T zkz=[]:=zaf yan
theorem yao:T zqa=some (zaa zz0 zz1 []):=rfl
@[simp] theorem y6k:zad T zqa=[]:=zaf yao
theorem yap:T zmr=some (zaa zz2 zz3 []):=rfl
@[simp] theorem y6l:zad T zmr=[]:=zaf yap
theorem yaq:T zqb=some (zaa zt6 zt7 []):=rfl
@[simp] theorem y6m:zad T zqb=[]:=zaf yaq
theorem yar:T zms=some (zaa zz4 zz5 []):=rfl
@[simp] theorem y6n:zad T zms=[]:=zaf yar
theorem yas:T zqc=some (zaa zz6 zz7 []):=rfl
@[simp] theorem y6o:zad T zqc=[]:=zaf yas
theorem yat:T zqd=some (zaa zji zjj []):=rfl
@[simp] theorem y6p:zad T zqd=[]:=zaf yat
theorem yau:T zqe=some (zaa zz8 zz9 []):=rfl
@[simp] theorem y6q:zad T zqe=[]:=zaf yau
theorem yav:T zqf=some (zaa z0a z0b []):=rfl
@[simp] theorem y6r:zad T zqf=[]:=zaf yav
theorem yaw:T zqg=some (zaa z0d z0e []):=rfl
@[simp] theorem y6s:zad T zqg=[]:=zaf yaw
theorem yax:T zmt=some (zaa zjk zjl []):=rfl
@[simp] theorem y6t:zad T zmt=[]:=zaf yax
theorem yay:T zmu=some (zaa z0f z0g []):=rfl
@[simp] theorem y6u:zad T zmu=[]:=zaf yay
theorem yaz:T zmv=some (zaa zrb zrc []):=rfl
@[simp] theorem y6v:zad T zmv=[]:=zaf yaz
theorem ya0:T zmw=some (zaa zlc zld []):=rfl
@[simp] theorem y6w:zad T zmw=[]:=zaf ya0
theorem ya1:T zqh=some (zaa z0h z0i []):=rfl
@[simp] theorem y6x:zad T zqh=[]:=zaf ya1
theorem ya2:T zk0=some (zaa zrd zre []):=rfl
@[simp] theorem y6y:zad T zk0=[]:=zaf ya2
theorem ya3:T zqi=some (zaa zjm zjn []):=rfl
@[simp] theorem y6z:zad T zqi=[]:=zaf ya3
theorem ya4:T zmx=some (zaa z0j z0k []):=rfl
@[simp] theorem y60:zad T zmx=[]:=zaf ya4
theorem ya5:T zqj=some (zaa z0l z0m []):=rfl
@[simp] theorem y61:zad T zqj=[]:=zaf ya5
theorem ya6:T zk1=some (zaa z0n z0o []):=rfl
@[simp] theorem y62:zad T zk1=[]:=zaf ya6
theorem ya7:T zmy=some (zaa zhr zhs []):=rfl
@[simp] theorem y63:zad T zmy=[]:=zaf ya7
theorem ya8:T zg0=some (zaa zrf zrg []):=rfl
@[simp] theorem y64:zad T zg0=[]:=zaf ya8
theorem ya9:T zk2=some (zaa z0p z0q []):=rfl
@[simp] theorem y65:zad T zk2=[]:=zaf ya9
theorem yba:T zmz=some (zaa z0r z0s []):=rfl
@[simp] theorem y66:zad T zmz=[]:=zaf yba
theorem ybb:T zqk=some (zaa z0t z0u []):=rfl
@[simp] theorem y67:zad T zqk=[]:=zaf ybb
theorem ybc:T zql=some (zaa zfw zfx []):=rfl
@[simp] theorem y68:zad T zql=[]:=zaf ybc
theorem ybd:T zja=some (zaa z0v z0w []):=rfl
@[simp] theorem y69:zad T zja=[]:=zaf ybd
theorem ybe:T zqm=some (zaa z0x z0y []):=rfl
@[simp] theorem y7a:zad T zqm=[]:=zaf ybe
theorem ybf:T zm0=some (zaa zht zhu []):=rfl
@[simp] theorem y7b:zad T zm0=[]:=zaf ybf
theorem ybg:T zjb=some (zaa zua zub []):=rfl
@[simp] theorem y7c:zad T zjb=[]:=zaf ybg
theorem ybh:T zk3=some (zaa zle zlf []):=rfl
@[simp] theorem y7d:zad T zk3=[]:=zaf ybh
theorem ybi:T zm1=some (zaa zrh zri []):=rfl
@[simp] theorem y7e:zad T zm1=[]:=zaf ybi
theorem ybj:T zm2=some (zaa z0z z00 []):=rfl
@[simp] theorem y7f:zad T zm2=[]:=zaf ybj
theorem ybk:T zm3=some (zaa z02 z03 []):=rfl
@[simp] theorem y7g:zad T zm3=[]:=zaf ybk
theorem ybl:T zqn=some (zaa z04 z05 []):=rfl
@[simp] theorem y7h:zad T zqn=[]:=zaf ybl
theorem ybm:T zm4=some (zaa z06 z07 []):=rfl
@[simp] theorem y7i:zad T zm4=[]:=zaf ybm
theorem ybn:T zhn=some (zaa znq znr []):=rfl
@[simp] theorem y7j:zad T zhn=[]:=zaf ybn
theorem ybo:T zk4=some (.ext zrn):=rfl
@[simp] theorem y7k:zad T zk4=[]:=rfl
theorem z3w:T zjc=some (.ext zro):=rfl
@[simp] theorem y7l:zad T zjc=[]:=rfl
theorem ybp:T zk5=some (zaa z08 z09 []):=rfl
@[simp] theorem y7m:zad T zk5=[]:=zaf ybp
theorem ybq:T zk6=some (zaa z1a z1b []):=rfl
@[simp] theorem y7n:zad T zk6=[]:=zaf ybq
theorem ybr:T zm5=some (zaa zrj zrk []):=rfl
@[simp] theorem y7o:zad T zm5=[]:=zaf ybr
theorem ybs:T zho=some (zaa zns znt []):=rfl
@[simp] theorem y7p:zad T zho=[]:=zaf ybs
theorem ybt:T zqo=some (zaa z1c z1d []):=rfl
@[simp] theorem y7q:zad T zqo=[]:=zaf ybt
theorem ybu:T zk7=some (zaa z1e z1f []):=rfl
@[simp] theorem y7r:zad T zk7=[]:=zaf ybu
theorem ybv:T zk8=some (zaa z1g z1h []):=rfl
@[simp] theorem y7s:zad T zk8=[]:=zaf ybv
theorem ybw:T zm6=some (zaa z1i z1j []):=rfl
@[simp] theorem y7t:zad T zm6=[]:=zaf ybw
end Go.Pe
