/- The compact texts of the functions that the law reaches; no condition. -/
import Derived.Test.YtpcphbbcnmhcnaaGreatK0
set_option linter.all false
namespace Go.Pe
open Go
def z2v:IC := .seq (.reg [oV 4 (.mv (.C (.v (.int .u64 0)))),oV 5 (.mv (.C (.v (.int .u64 0))))]) (.seq (.reg [mV 13 0,oE 14 (.bin .shr (.E 13) (.C (.v (.int .u64 32)))),vE 6 14]) (.seq (.reg [mV 15 0,oE 16 (.bin .and (.E 15) (.C (.v (.int .u64 4294967295)))),vE 7 16]) (.seq (.reg [mV 17 1,oE 18 (.bin .shr (.E 17) (.C (.v (.int .u64 32)))),vE 8 18]) (.seq (.reg [mV 19 1,oE 20 (.bin .and (.E 19) (.C (.v (.int .u64 4294967295)))),vE 9 20]) (.seq (.reg [mV 21 7,mV 22 9,bE 23 .mul 21 22,vE 10 23]) (.seq (.reg [mV 24 6,mV 25 9,bE 26 .mul 24 25,mV 27 10,oE 28 (.bin .shr (.E 27) (.C (.v (.int .u64 32)))),bE 29 .add 26 28,vE 11 29]) (.seq (.reg [mV 30 7,mV 31 8,bE 32 .mul 30 31,mV 33 11,oE 34 (.bin .and (.E 33) (.C (.v (.int .u64 4294967295)))),bE 35 .add 32 34,vE 12 35]) (.seq (.reg [mV 36 6,mV 37 8,bE 38 .mul 36 37,mV 39 11,oE 40 (.bin .shr (.E 39) (.C (.v (.int .u64 32)))),bE 41 .add 38 40,mV 42 12,oE 43 (.bin .shr (.E 42) (.C (.v (.int .u64 32)))),bE 44 .add 41 43,mV 45 12,oE 46 (.bin .shl (.E 45) (.C (.v (.int .u64 32)))),mV 47 10,oE 48 (.bin .and (.E 47) (.C (.v (.int .u64 4294967295)))),bE 49 .add 46 48,vE 4 44,vE 5 49]) .ret))))))))
def z2w:List RV:=[.tmp [0] 4,.tmp [0] 5]
def tbl:List (Nat×Fun):=[
 (ztr,zaa zni znj []),
 (zo4,zaa zwr zws []),
 (zjj,zaa zjq zjr []),
 (ziu,zaa zwt zwu []),
 (zo5,zaa ztt ztu []),
 (zo6,zaa znl znm []),
 (zmh,zaa znn zno []),
 (zo7,zaa znp znq []),
 (zo8,zaa zlk zll []),
 (zo9,zaa znr zns []),
 (zmi,zaa zru zrv []),
 (zpa,zaa zwv zww []),
 (zpb,zaa zwx zwy []),
 (zk2,zaa zrw zrx []),
 (zpc,zaa zwz zw0 []),
 (zpd,zaa zw1 zw2 []),
 (zpe,zaa zjs zjt []),
 (zpf,zaa zw3 zw4 []),
 (zmj,zaa zju zjv []),
 (zpg,zaa znt znu []),
 (zbd,zaa zw5 zw6 []),
 (zk3,zaa zrz zr0 []),
 (zk4,zaa zw7 zw8 []),
 (ziv,zaa zw9 zxa []),
 (zph,zaa zxb zxc []),
 (zpi,zaa zxd zxe []),
 (zpj,zaa zxf zxg []),
 (ze3,zaa zxh zxi [true]),
 (zpk,zaa zxj zxk []),
 (zpl,zaa zhr zhs [true]),
 (zpm,zaa zjw zjx []),
 (zpn,zaa zxl zxm []),
 (zmk,.known [] (zhj 1 16)),
 (zpo,.known [] (zhj 1 8)),
 (zpp,zaa zxn zxo []),
 (zml,zaa zxp zxq []),
 (zmm,zaa zxr zxs []),
 (zpq,zaa zjy zjz []),
 (zpr,zaa zxt zxu []),
 (zmn,zaa ztv ztw []),
 (zps,zaa ztx zty []),
 (zpt,zaa ztz zt0 []),
 (zpu,zaa zt1 zt2 []),
 (zk5,zaa zxv zxw []),
 (zpv,zaa zt4 zt5 []),
 (zmo,zaa zr1 zr2 []),
 (zpw,zaa zr3 zr4 []),
 (zco,zaa zxy zxz []),
 (zmp,zaa zx0 zx1 []),
 (zk6,zaa zx2 zx3 []),
 (zmq,zaa zx4 zx5 []),
 (zmr,zaa zx6 zx7 []),
 (zk7,zaa zx8 zx9 []),
 (zpx,zaa zya zyb []),
 (zms,zaa zyc zyd []),
 (zpy,zaa znv znw []),
 (zpz,zaa zj0 zj1 []),
 (zp0,zaa zye zyf []),
 (zp1,zaa zyg zyh []),
 (zbe,zaa zr5 zr6 [true]),
 (zp2,zaa znx zny [true]),
 (zp3,zaa zyi zyj []),
 (zp4,zaa zt6 zt7 []),
 (zp5,zaa zt8 zt9 []),
 (zp6,zaa zyk zyl []),
 (zjk,zaa zlm zln []),
 (zp7,zaa zym zyn []),
 (zp8,zaa zyo zyp []),
 (zp9,zaa zyq zyr []),
 (zqa,zaa zys zyt []),
 (zqb,zaa zyv zyw []),
 (zmt,zaa zuc zlo [true]),
 (zmu,zaa znz zn0 [true]),
 (zqc,zaa zgz zg0 [true]),
 (zqd,zaa zg1 zg2 [true]),
 (zqe,zaa zyy zyz [true]),
 (zds,zaa zy0 zy1 [true,true,true]),
 (zmv,zaa zy2 zy3 []),
 (zqf,zaa zy4 zy5 []),
 (zmw,zaa zy6 zy7 []),
 (zmx,zaa zy8 zy9 []),
 (zqg,zaa zza zzb []),
 (zk8,zaa zzc zzd []),
 (zmy,zaa zze zzf []),
 (zqh,zaa zud zue []),
 (zqi,zaa zuf zug []),
 (zqj,zaa zzg zzh []),
 (zqk,zaa zr7 zr8 []),
 (zql,zaa zzj zzk []),
 (zqm,zaa zzl zzm []),
 (zqn,zaa zzn zzo []),
 (zqo,zaa zzp zzq []),
 (zqp,zaa zzr zzs []),
 (zqq,zaa zzt zzu []),
 (zjl,zaa zzv zzw []),
 (zmz,zaa zzx zzy []),
 (zm0,zaa zzz zz0 []),
 (zqr,zaa zz1 zz2 []),
 (zhp,zaa zui zuj [true]),
 (zm1,zaa zr9 zsa [true]),
 (zm2,zaa zuk zul []),
 (zk9,zaa zlp zlq []),
 (zm3,zaa zn1 zn2 []),
 (zqs,zaa zz3 zz4 []),
 (zqt,zaa zz5 zz6 []),
 (zqu,zaa zsb zsc []),
 (zla,zaa zsd zse []),
 (zqv,zaa zz7 zz8 []),
 (zqw,zaa zz9 z0a []),
 (zm4,zaa z0b z0c []),
 (zqx,zaa zsf zsg []),
 (zm5,zaa zun zuo []),
 (zgy,zaa z0d z0e []),
 (zqy,zaa z0f z0g []),
 (zqz,zaa z0h z0i []),
 (zjm,zaa z0j z0k []),
 (zq0,zaa z0l z0m []),
 (zm6,zaa z0n z0o []),
 (zlb,zaa z0p z0q []),
 (zm7,zaa z0r z0s [true,true]),
 (zq1,zaa z0t z0u []),
 (zq2,zaa z0v z0w []),
 (zq3,zaa z0x z0y []),
 (zm8,zaa z0z z00 []),
 (zq4,zaa z01 z02 []),
 (zq5,.known [] (zhj 5 40)),
 (zm9,zaa z04 z05 []),
 (zq6,zaa z06 z07 []),
 (zq7,zaa z08 z09 []),
 (zq8,zaa z1a z1b []),
 (zna,zaa z1c z1d []),
 (zq9,zaa z1e z1f [true]),
 (znb,zaa zn3 zn4 []),
 (zlc,zaa zuq zur []),
 (zra,zaa zus zut []),
 (zrb,zaa z1h z1i []),
 (zrc,zaa z1k z1l []),
 (znc,zaa z1m z1n []),
 (znd,zaa zuv zuw []),
 (zrd,zaa z1o z1p []),
 (zre,zaa z1q z1r []),
 (zrf,zaa z1s z1t []),
 (zne,zaa z1u z1v []),
 (zrg,zaa z1w z1x []),
 (zrh,zaa zux zuy []),
 (zjn,zaa z1y z1z []),
 (zld,zaa z12 z13 []),
 (zri,zaa z17 z18 []),
 (zle,zaa z19 z2a []),
 (zrj,zaa zuz zu0 []),
 (zrk,zaa z2b z2c []),
 (zlf,zaa z2d z2e []),
 (znf,zaa z2f z2g []),
 (zrl,zaa zu1 zu2 []),
 (zrm,zaa z2h z2i []),
 (zlg,zaa zsh zsi []),
 (zrn,zaa zu3 zu4 []),
 (zng,zaa z2j z2k []),
 (zro,zaa z2l z2m []),
 (zrp,zaa z2n z2o []),
 (zrq,zaa zfh zfi []),
 (zjo,zaa z2p z2q []),
 (znh,zaa zht zhu []),
 (zjp,zaa zu5 zu6 []),
 (zlh,zaa zlr zls []),
 (zrr,zaa z2r z2s []),
 (zhq,zaa zn7 zn8 []),
 (zli,zaa z2t z2u []),
 (zlj,zaa z2v z2w [])]
def T:zcn:=fun f=>(tbl.find? fun q=>q.1 == f).map fun q=>q.2
theorem zsj:T ztr=some (zaa zni znj []):=rfl
@[simp] theorem y8s:zad T ztr=[]:=zag zsj
theorem yag:T zo4=some (zaa zwr zws []):=rfl
@[simp] theorem y8t:zad T zo4=[]:=zag yag
theorem yah:T zjj=some (zaa zjq zjr []):=rfl
@[simp] theorem y8u:zad T zjj=[]:=zag yah
theorem yai:T ziu=some (zaa zwt zwu []):=rfl
@[simp] theorem y8v:zad T ziu=[]:=zag yai
theorem yaj:T zo5=some (zaa ztt ztu []):=rfl
@[simp] theorem y8w:zad T zo5=[]:=zag yaj
theorem z5e:T zo6=some (zaa znl znm []):=rfl
@[simp] theorem y8x:zad T zo6=[]:=zag z5e
theorem yak:T zmh=some (zaa znn zno []):=rfl
@[simp] theorem y8y:zad T zmh=[]:=zag yak
theorem yal:T zo7=some (zaa znp znq []):=rfl
@[simp] theorem y8z:zad T zo7=[]:=zag yal
theorem yam:T zo8=some (zaa zlk zll []):=rfl
@[simp] theorem y80:zad T zo8=[]:=zag yam
theorem yan:T zo9=some (zaa znr zns []):=rfl
@[simp] theorem y81:zad T zo9=[]:=zag yan
theorem z2x:T zmi=some (zaa zru zrv []):=rfl
@[simp] theorem y82:zad T zmi=[]:=zag z2x
theorem yao:T zpa=some (zaa zwv zww []):=rfl
@[simp] theorem y83:zad T zpa=[]:=zag yao
theorem yap:T zpb=some (zaa zwx zwy []):=rfl
@[simp] theorem y84:zad T zpb=[]:=zag yap
theorem yaq:T zk2=some (zaa zrw zrx []):=rfl
@[simp] theorem y85:zad T zk2=[]:=zag yaq
theorem yar:T zpc=some (zaa zwz zw0 []):=rfl
@[simp] theorem y86:zad T zpc=[]:=zag yar
theorem yas:T zpd=some (zaa zw1 zw2 []):=rfl
@[simp] theorem y87:zad T zpd=[]:=zag yas
theorem zn9:T zpe=some (zaa zjs zjt []):=rfl
@[simp] theorem y88:zad T zpe=[]:=zag zn9
theorem yat:T zpf=some (zaa zw3 zw4 []):=rfl
@[simp] theorem y89:zad T zpf=[]:=zag yat
theorem yau:T zmj=some (zaa zju zjv []):=rfl
@[simp] theorem y9a:zad T zmj=[]:=zag yau
theorem zu7:T zpg=some (zaa znt znu []):=rfl
@[simp] theorem y9b:zad T zpg=[]:=zag zu7
theorem yav:T zbd=some (zaa zw5 zw6 []):=rfl
@[simp] theorem y9c:zad T zbd=[]:=zag yav
theorem yaw:T zk3=some (zaa zrz zr0 []):=rfl
@[simp] theorem y9d:zad T zk3=[]:=zag yaw
theorem yax:T zk4=some (zaa zw7 zw8 []):=rfl
@[simp] theorem y9e:zad T zk4=[]:=zag yax
theorem yay:T ziv=some (zaa zw9 zxa []):=rfl
@[simp] theorem y9f:zad T ziv=[]:=zag yay
theorem yaz:T zph=some (zaa zxb zxc []):=rfl
@[simp] theorem y9g:zad T zph=[]:=zag yaz
theorem ya0:T zpi=some (zaa zxd zxe []):=rfl
@[simp] theorem y9h:zad T zpi=[]:=zag ya0
theorem ya1:T zpj=some (zaa zxf zxg []):=rfl
@[simp] theorem y9i:zad T zpj=[]:=zag ya1
theorem ya2:T ze3=some (zaa zxh zxi [true]):=rfl
@[simp] theorem y9j:zad T ze3=[true]:=zag ya2
theorem ya3:T zpk=some (zaa zxj zxk []):=rfl
@[simp] theorem y9k:zad T zpk=[]:=zag ya3
theorem ya4:T zpl=some (zaa zhr zhs [true]):=rfl
@[simp] theorem y9l:zad T zpl=[true]:=zag ya4
theorem ya5:T zpm=some (zaa zjw zjx []):=rfl
@[simp] theorem y9m:zad T zpm=[]:=zag ya5
theorem ya6:T zpn=some (zaa zxl zxm []):=rfl
@[simp] theorem y9n:zad T zpn=[]:=zag ya6
theorem ya7:T zmk=some (.known [] (zhj 1 16)):=rfl
@[simp] theorem y9o:zad T zmk=[]:=z7h ya7
theorem ya8:T zpo=some (.known [] (zhj 1 8)):=rfl
@[simp] theorem y9p:zad T zpo=[]:=z7h ya8
theorem ya9:T zpp=some (zaa zxn zxo []):=rfl
@[simp] theorem y9q:zad T zpp=[]:=zag ya9
theorem yba:T zml=some (zaa zxp zxq []):=rfl
@[simp] theorem y9r:zad T zml=[]:=zag yba
theorem ybb:T zmm=some (zaa zxr zxs []):=rfl
@[simp] theorem y9s:zad T zmm=[]:=zag ybb
theorem ybc:T zpq=some (zaa zjy zjz []):=rfl
@[simp] theorem y9t:zad T zpq=[]:=zag ybc
theorem ybd:T zpr=some (zaa zxt zxu []):=rfl
@[simp] theorem y9u:zad T zpr=[]:=zag ybd
theorem ybe:T zmn=some (zaa ztv ztw []):=rfl
@[simp] theorem y9v:zad T zmn=[]:=zag ybe
theorem ybf:T zps=some (zaa ztx zty []):=rfl
@[simp] theorem y9w:zad T zps=[]:=zag ybf
theorem ybg:T zpt=some (zaa ztz zt0 []):=rfl
@[simp] theorem y9x:zad T zpt=[]:=zag ybg
theorem ybh:T zpu=some (zaa zt1 zt2 []):=rfl
@[simp] theorem y9y:zad T zpu=[]:=zag ybh
theorem ybi:T zk5=some (zaa zxv zxw []):=rfl
@[simp] theorem y9z:zad T zk5=[]:=zag ybi
theorem ybj:T zpv=some (zaa zt4 zt5 []):=rfl
@[simp] theorem y90:zad T zpv=[]:=zag ybj
theorem z2y:T zmo=some (zaa zr1 zr2 []):=rfl
@[simp] theorem y91:zad T zmo=[]:=zag z2y
theorem ybk:T zpw=some (zaa zr3 zr4 []):=rfl
@[simp] theorem y92:zad T zpw=[]:=zag ybk
theorem ybl:T zco=some (zaa zxy zxz []):=rfl
@[simp] theorem y93:zad T zco=[]:=zag ybl
theorem ybm:T zmp=some (zaa zx0 zx1 []):=rfl
@[simp] theorem y94:zad T zmp=[]:=zag ybm
theorem ybn:T zk6=some (zaa zx2 zx3 []):=rfl
@[simp] theorem y95:zad T zk6=[]:=zag ybn
theorem ybo:T zmq=some (zaa zx4 zx5 []):=rfl
@[simp] theorem y96:zad T zmq=[]:=zag ybo
theorem ybp:T zmr=some (zaa zx6 zx7 []):=rfl
@[simp] theorem y97:zad T zmr=[]:=zag ybp
theorem ybq:T zk7=some (zaa zx8 zx9 []):=rfl
@[simp] theorem y98:zad T zk7=[]:=zag ybq
theorem ybr:T zpx=some (zaa zya zyb []):=rfl
@[simp] theorem y99:zad T zpx=[]:=zag ybr
theorem ybs:T zms=some (zaa zyc zyd []):=rfl
@[simp] theorem qaa:zad T zms=[]:=zag ybs
theorem ybt:T zpy=some (zaa znv znw []):=rfl
@[simp] theorem qab:zad T zpy=[]:=zag ybt
theorem ybu:T zpz=some (zaa zj0 zj1 []):=rfl
@[simp] theorem qac:zad T zpz=[]:=zag ybu
theorem ybv:T zp0=some (zaa zye zyf []):=rfl
@[simp] theorem qad:zad T zp0=[]:=zag ybv
theorem ybw:T zp1=some (zaa zyg zyh []):=rfl
@[simp] theorem qae:zad T zp1=[]:=zag ybw
theorem ybx:T zbe=some (zaa zr5 zr6 [true]):=rfl
@[simp] theorem qaf:zad T zbe=[true]:=zag ybx
theorem yby:T zp2=some (zaa znx zny [true]):=rfl
@[simp] theorem qag:zad T zp2=[true]:=zag yby
theorem ybz:T zp3=some (zaa zyi zyj []):=rfl
@[simp] theorem qah:zad T zp3=[]:=zag ybz
theorem yb0:T zp4=some (zaa zt6 zt7 []):=rfl
@[simp] theorem qai:zad T zp4=[]:=zag yb0
theorem z5f:T zp5=some (zaa zt8 zt9 []):=rfl
@[simp] theorem qaj:zad T zp5=[]:=zag z5f
theorem yb1:T zp6=some (zaa zyk zyl []):=rfl
@[simp] theorem qak:zad T zp6=[]:=zag yb1
theorem yb2:T zjk=some (zaa zlm zln []):=rfl
@[simp] theorem qal:zad T zjk=[]:=zag yb2
theorem yb3:T zp7=some (zaa zym zyn []):=rfl
@[simp] theorem qam:zad T zp7=[]:=zag yb3
theorem yb4:T zp8=some (zaa zyo zyp []):=rfl
@[simp] theorem qan:zad T zp8=[]:=zag yb4
theorem yb5:T zp9=some (zaa zyq zyr []):=rfl
@[simp] theorem qao:zad T zp9=[]:=zag yb5
theorem yb6:T zqa=some (zaa zys zyt []):=rfl
@[simp] theorem qap:zad T zqa=[]:=zag yb6
theorem yb7:T zqb=some (zaa zyv zyw []):=rfl
@[simp] theorem qaq:zad T zqb=[]:=zag yb7
theorem yb8:T zmt=some (zaa zuc zlo [true]):=rfl
@[simp] theorem qar:zad T zmt=[true]:=zag yb8
theorem yb9:T zmu=some (zaa znz zn0 [true]):=rfl
@[simp] theorem qas:zad T zmu=[true]:=zag yb9
theorem yca:T zqc=some (zaa zgz zg0 [true]):=rfl
@[simp] theorem qat:zad T zqc=[true]:=zag yca
theorem ycb:T zqd=some (zaa zg1 zg2 [true]):=rfl
@[simp] theorem qau:zad T zqd=[true]:=zag ycb
theorem ycc:T zqe=some (zaa zyy zyz [true]):=rfl
@[simp] theorem qav:zad T zqe=[true]:=zag ycc
theorem ycd:T zds=some (zaa zy0 zy1 [true,true,true]):=rfl
@[simp] theorem qaw:zad T zds=[true,true,true]:=zag ycd
theorem yce:T zmv=some (zaa zy2 zy3 []):=rfl
@[simp] theorem qax:zad T zmv=[]:=zag yce
theorem ycf:T zqf=some (zaa zy4 zy5 []):=rfl
@[simp] theorem qay:zad T zqf=[]:=zag ycf
theorem ycg:T zmw=some (zaa zy6 zy7 []):=rfl
@[simp] theorem qaz:zad T zmw=[]:=zag ycg
theorem ych:T zmx=some (zaa zy8 zy9 []):=rfl
@[simp] theorem qa0:zad T zmx=[]:=zag ych
theorem yci:T zqg=some (zaa zza zzb []):=rfl
@[simp] theorem qa1:zad T zqg=[]:=zag yci
theorem ycj:T zk8=some (zaa zzc zzd []):=rfl
@[simp] theorem qa2:zad T zk8=[]:=zag ycj
theorem yck:T zmy=some (zaa zze zzf []):=rfl
@[simp] theorem qa3:zad T zmy=[]:=zag yck
theorem ycl:T zqh=some (zaa zud zue []):=rfl
@[simp] theorem qa4:zad T zqh=[]:=zag ycl
theorem ycm:T zqi=some (zaa zuf zug []):=rfl
@[simp] theorem qa5:zad T zqi=[]:=zag ycm
theorem ycn:T zqj=some (zaa zzg zzh []):=rfl
@[simp] theorem qa6:zad T zqj=[]:=zag ycn
theorem z2z:T zqk=some (zaa zr7 zr8 []):=rfl
@[simp] theorem qa7:zad T zqk=[]:=zag z2z
theorem yco:T zql=some (zaa zzj zzk []):=rfl
@[simp] theorem qa8:zad T zql=[]:=zag yco
theorem ycp:T zqm=some (zaa zzl zzm []):=rfl
@[simp] theorem qa9:zad T zqm=[]:=zag ycp
theorem ycq:T zqn=some (zaa zzn zzo []):=rfl
@[simp] theorem qba:zad T zqn=[]:=zag ycq
theorem ycr:T zqo=some (zaa zzp zzq []):=rfl
@[simp] theorem qbb:zad T zqo=[]:=zag ycr
theorem ycs:T zqp=some (zaa zzr zzs []):=rfl
@[simp] theorem qbc:zad T zqp=[]:=zag ycs
theorem yct:T zqq=some (zaa zzt zzu []):=rfl
@[simp] theorem qbd:zad T zqq=[]:=zag yct
theorem ycu:T zjl=some (zaa zzv zzw []):=rfl
@[simp] theorem qbe:zad T zjl=[]:=zag ycu
theorem ycv:T zmz=some (zaa zzx zzy []):=rfl
@[simp] theorem qbf:zad T zmz=[]:=zag ycv
theorem ycw:T zm0=some (zaa zzz zz0 []):=rfl
@[simp] theorem qbg:zad T zm0=[]:=zag ycw
theorem ycx:T zqr=some (zaa zz1 zz2 []):=rfl
@[simp] theorem qbh:zad T zqr=[]:=zag ycx
theorem ycy:T zhp=some (zaa zui zuj [true]):=rfl
@[simp] theorem qbi:zad T zhp=[true]:=zag ycy
theorem ycz:T zm1=some (zaa zr9 zsa [true]):=rfl
@[simp] theorem qbj:zad T zm1=[true]:=zag ycz
theorem yc0:T zm2=some (zaa zuk zul []):=rfl
@[simp] theorem qbk:zad T zm2=[]:=zag yc0
theorem yc1:T zk9=some (zaa zlp zlq []):=rfl
@[simp] theorem qbl:zad T zk9=[]:=zag yc1
theorem yc2:T zm3=some (zaa zn1 zn2 []):=rfl
@[simp] theorem qbm:zad T zm3=[]:=zag yc2
theorem yc3:T zqs=some (zaa zz3 zz4 []):=rfl
@[simp] theorem qbn:zad T zqs=[]:=zag yc3
theorem yc4:T zqt=some (zaa zz5 zz6 []):=rfl
@[simp] theorem qbo:zad T zqt=[]:=zag yc4
theorem yc5:T zqu=some (zaa zsb zsc []):=rfl
@[simp] theorem qbp:zad T zqu=[]:=zag yc5
theorem yc6:T zla=some (zaa zsd zse []):=rfl
@[simp] theorem qbq:zad T zla=[]:=zag yc6
theorem yc7:T zqv=some (zaa zz7 zz8 []):=rfl
@[simp] theorem qbr:zad T zqv=[]:=zag yc7
theorem yc8:T zqw=some (zaa zz9 z0a []):=rfl
@[simp] theorem qbs:zad T zqw=[]:=zag yc8
theorem yc9:T zm4=some (zaa z0b z0c []):=rfl
@[simp] theorem qbt:zad T zm4=[]:=zag yc9
theorem yda:T zqx=some (zaa zsf zsg []):=rfl
@[simp] theorem qbu:zad T zqx=[]:=zag yda
theorem ydb:T zm5=some (zaa zun zuo []):=rfl
@[simp] theorem qbv:zad T zm5=[]:=zag ydb
theorem ydc:T zgy=some (zaa z0d z0e []):=rfl
@[simp] theorem qbw:zad T zgy=[]:=zag ydc
theorem ydd:T zqy=some (zaa z0f z0g []):=rfl
@[simp] theorem qbx:zad T zqy=[]:=zag ydd
theorem yde:T zqz=some (zaa z0h z0i []):=rfl
@[simp] theorem qby:zad T zqz=[]:=zag yde
theorem ydf:T zjm=some (zaa z0j z0k []):=rfl
@[simp] theorem qbz:zad T zjm=[]:=zag ydf
theorem ydg:T zq0=some (zaa z0l z0m []):=rfl
@[simp] theorem qb0:zad T zq0=[]:=zag ydg
theorem ydh:T zm6=some (zaa z0n z0o []):=rfl
@[simp] theorem qb1:zad T zm6=[]:=zag ydh
theorem ydi:T zlb=some (zaa z0p z0q []):=rfl
@[simp] theorem qb2:zad T zlb=[]:=zag ydi
theorem ydj:T zm7=some (zaa z0r z0s [true,true]):=rfl
@[simp] theorem qb3:zad T zm7=[true,true]:=zag ydj
theorem ydk:T zq1=some (zaa z0t z0u []):=rfl
@[simp] theorem qb4:zad T zq1=[]:=zag ydk
theorem ydl:T zq2=some (zaa z0v z0w []):=rfl
@[simp] theorem qb5:zad T zq2=[]:=zag ydl
theorem ydm:T zq3=some (zaa z0x z0y []):=rfl
@[simp] theorem qb6:zad T zq3=[]:=zag ydm
theorem ydn:T zm8=some (zaa z0z z00 []):=rfl
@[simp] theorem qb7:zad T zm8=[]:=zag ydn
theorem ydo:T zq4=some (zaa z01 z02 []):=rfl
@[simp] theorem qb8:zad T zq4=[]:=zag ydo
theorem ydp:T zq5=some (.known [] (zhj 5 40)):=rfl
@[simp] theorem qb9:zad T zq5=[]:=z7h ydp
theorem ydq:T zm9=some (zaa z04 z05 []):=rfl
@[simp] theorem qca:zad T zm9=[]:=zag ydq
theorem ydr:T zq6=some (zaa z06 z07 []):=rfl
@[simp] theorem qcb:zad T zq6=[]:=zag ydr
theorem yds:T zq7=some (zaa z08 z09 []):=rfl
@[simp] theorem qcc:zad T zq7=[]:=zag yds
theorem ydt:T zq8=some (zaa z1a z1b []):=rfl
@[simp] theorem qcd:zad T zq8=[]:=zag ydt
theorem ydu:T zna=some (zaa z1c z1d []):=rfl
@[simp] theorem qce:zad T zna=[]:=zag ydu
theorem ydv:T zq9=some (zaa z1e z1f [true]):=rfl
@[simp] theorem qcf:zad T zq9=[true]:=zag ydv
theorem ydw:T znb=some (zaa zn3 zn4 []):=rfl
@[simp] theorem qcg:zad T znb=[]:=zag ydw
theorem ydx:T zlc=some (zaa zuq zur []):=rfl
@[simp] theorem qch:zad T zlc=[]:=zag ydx
theorem ydy:T zra=some (zaa zus zut []):=rfl
@[simp] theorem qci:zad T zra=[]:=zag ydy
theorem ydz:T zrb=some (zaa z1h z1i []):=rfl
@[simp] theorem qcj:zad T zrb=[]:=zag ydz
theorem yd0:T zrc=some (zaa z1k z1l []):=rfl
@[simp] theorem qck:zad T zrc=[]:=zag yd0
theorem yd1:T znc=some (zaa z1m z1n []):=rfl
@[simp] theorem qcl:zad T znc=[]:=zag yd1
theorem yd2:T znd=some (zaa zuv zuw []):=rfl
@[simp] theorem qcm:zad T znd=[]:=zag yd2
theorem yd3:T zrd=some (zaa z1o z1p []):=rfl
@[simp] theorem qcn:zad T zrd=[]:=zag yd3
theorem yd4:T zre=some (zaa z1q z1r []):=rfl
@[simp] theorem qco:zad T zre=[]:=zag yd4
theorem yd5:T zrf=some (zaa z1s z1t []):=rfl
@[simp] theorem qcp:zad T zrf=[]:=zag yd5
theorem yd6:T zne=some (zaa z1u z1v []):=rfl
@[simp] theorem qcq:zad T zne=[]:=zag yd6
theorem yd7:T zrg=some (zaa z1w z1x []):=rfl
@[simp] theorem qcr:zad T zrg=[]:=zag yd7
theorem yd8:T zrh=some (zaa zux zuy []):=rfl
@[simp] theorem qcs:zad T zrh=[]:=zag yd8
theorem yd9:T zjn=some (zaa z1y z1z []):=rfl
@[simp] theorem qct:zad T zjn=[]:=zag yd9
theorem yea:T zld=some (zaa z12 z13 []):=rfl
@[simp] theorem qcu:zad T zld=[]:=zag yea
theorem yeb:T zri=some (zaa z17 z18 []):=rfl
@[simp] theorem qcv:zad T zri=[]:=zag yeb
theorem yec:T zle=some (zaa z19 z2a []):=rfl
@[simp] theorem qcw:zad T zle=[]:=zag yec
theorem yed:T zrj=some (zaa zuz zu0 []):=rfl
@[simp] theorem qcx:zad T zrj=[]:=zag yed
theorem yee:T zrk=some (zaa z2b z2c []):=rfl
@[simp] theorem qcy:zad T zrk=[]:=zag yee
theorem yef:T zlf=some (zaa z2d z2e []):=rfl
@[simp] theorem qcz:zad T zlf=[]:=zag yef
theorem yeg:T znf=some (zaa z2f z2g []):=rfl
@[simp] theorem qc0:zad T znf=[]:=zag yeg
theorem yeh:T zrl=some (zaa zu1 zu2 []):=rfl
@[simp] theorem qc1:zad T zrl=[]:=zag yeh
theorem yei:T zrm=some (zaa z2h z2i []):=rfl
@[simp] theorem qc2:zad T zrm=[]:=zag yei
theorem yej:T zlg=some (zaa zsh zsi []):=rfl
@[simp] theorem qc3:zad T zlg=[]:=zag yej
theorem yek:T zrn=some (zaa zu3 zu4 []):=rfl
@[simp] theorem qc4:zad T zrn=[]:=zag yek
theorem yel:T zng=some (zaa z2j z2k []):=rfl
@[simp] theorem qc5:zad T zng=[]:=zag yel
theorem yem:T zro=some (zaa z2l z2m []):=rfl
@[simp] theorem qc6:zad T zro=[]:=zag yem
theorem yen:T zrp=some (zaa z2n z2o []):=rfl
@[simp] theorem qc7:zad T zrp=[]:=zag yen
theorem yeo:T zrq=some (zaa zfh zfi []):=rfl
@[simp] theorem qc8:zad T zrq=[]:=zag yeo
theorem yep:T zjo=some (zaa z2p z2q []):=rfl
@[simp] theorem qc9:zad T zjo=[]:=zag yep
theorem yeq:T znh=some (zaa zht zhu []):=rfl
@[simp] theorem qda:zad T znh=[]:=zag yeq
theorem yer:T zjp=some (zaa zu5 zu6 []):=rfl
@[simp] theorem qdb:zad T zjp=[]:=zag yer
theorem yes:T zlh=some (zaa zlr zls []):=rfl
@[simp] theorem qdc:zad T zlh=[]:=zag yes
theorem yeu:T zrr=some (zaa z2r z2s []):=rfl
@[simp] theorem qdd:zad T zrr=[]:=zag yeu
theorem yev:T zhq=some (zaa zn7 zn8 []):=rfl
@[simp] theorem qde:zad T zhq=[]:=zag yev
theorem yew:T zli=some (zaa z2t z2u []):=rfl
@[simp] theorem qdf:zad T zli=[]:=zag yew
theorem yex:T zlj=some (zaa z2v z2w []):=rfl
@[simp] theorem qdg:zad T zlj=[]:=zag yex
end Go.Pe
