/- Each compact text is its function of the program (yd9); no condition. -/
import Derived.Test.YtpcphbbcnmhcnaaGreatRows
import Derived.Test.YtpcphbbcnmhcnaaGreatK0
import Derived.Test.YtpcphbbcnmhcnaaGreatEvB2
import Derived.KernelRfl
import Derived.Test.YtpcphbbcnmhcnaaGreatSh
set_option linter.all false
namespace Go.Pe
open Go Go.Proofs
theorem ykq:zaf Tryz.prog zrn (zaa zkx zky []):=⟨_,_,yg7,Tryz.func3,rfl,by kernel_rfl,by kernel_rfl,by kernel_rfl⟩
theorem ykr:zaf Tryz.prog znz (zaa zub zuc []):=⟨_,_,yg8,Tryz.func10,rfl,by kernel_rfl,by kernel_rfl,by kernel_rfl⟩
theorem yks:zaf Tryz.prog zn0 (zaa zud zue []):=⟨_,_,yg9,Tryz.func11,rfl,by kernel_rfl,by kernel_rfl,by kernel_rfl⟩
theorem ykt:zaf Tryz.prog zli (zaa zro zrp []):=⟨_,_,yha,Tryz.func12,rfl,by kernel_rfl,by kernel_rfl,by kernel_rfl⟩
theorem yku:zaf Tryz.prog zn1 (zaa zje zjf []):=⟨_,_,yhb,Tryz.func13,rfl,by kernel_rfl,by kernel_rfl,by kernel_rfl⟩
theorem ykv:zaf Tryz.prog zn2 (zaa zuf zug []):=⟨_,_,yhc,Tryz.func14,rfl,by kernel_rfl,by kernel_rfl,by kernel_rfl⟩
theorem ykw:zaf Tryz.prog zn3 (zaa zrr zrs []):=⟨_,_,yhd,Tryz.func15,rfl,by kernel_rfl,by kernel_rfl,by kernel_rfl⟩
theorem ykx:zaf Tryz.prog zn4 (zaa zuh zui []):=⟨_,_,yhe,Tryz.func25,rfl,by kernel_rfl,by kernel_rfl,by kernel_rfl⟩
theorem yky:zaf Tryz.prog zn5 (zaa zuj zuk []):=⟨_,_,yhf,Tryz.func26,rfl,by kernel_rfl,by kernel_rfl,by kernel_rfl⟩
theorem ykz:zaf Tryz.prog zn6 (zaa zjg zjh []):=⟨_,_,yhg,Tryz.func28,rfl,by kernel_rfl,by kernel_rfl,by kernel_rfl⟩
theorem yk0:zaf Tryz.prog zn7 (zaa zmk zml []):=⟨_,_,yhh,Tryz.func49,rfl,by kernel_rfl,by kernel_rfl,by kernel_rfl⟩
theorem yk1:zaf Tryz.prog zn8 (zaa zpz zp0 []):=⟨_,_,yhi,Tryz.func50,rfl,by kernel_rfl,by kernel_rfl,by kernel_rfl⟩
theorem yk2:zaf Tryz.prog zez (zaa zul zum []):=⟨_,_,yhj,Tryz.func51,rfl,by kernel_rfl,by kernel_rfl,by kernel_rfl⟩
theorem yk3:zaf Tryz.prog zlj (zaa zp1 zp2 []):=⟨_,_,yhk,Tryz.func52,rfl,by kernel_rfl,by kernel_rfl,by kernel_rfl⟩
theorem yk4:zaf Tryz.prog zlk (zaa zun zuo []):=⟨_,_,yhl,Tryz.func53,rfl,by kernel_rfl,by kernel_rfl,by kernel_rfl⟩
theorem yk5:zaf Tryz.prog zll (zaa zup zuq []):=⟨_,_,yhm,Tryz.func54,rfl,by kernel_rfl,by kernel_rfl,by kernel_rfl⟩
theorem yk6:zaf Tryz.prog zn9 (zaa zur zus []):=⟨_,_,yhn,Tryz.func55,rfl,by kernel_rfl,by kernel_rfl,by kernel_rfl⟩
theorem yk7:zaf Tryz.prog zoa (zaa zut zuu []):=⟨_,_,yho,Tryz.func56,rfl,by kernel_rfl,by kernel_rfl,by kernel_rfl⟩
theorem yk8:zaf Tryz.prog zob (zaa zuv zuw []):=⟨_,_,yhp,Tryz.func57,rfl,by kernel_rfl,by kernel_rfl,by kernel_rfl⟩
theorem yk9:zaf Tryz.prog zfp (zaa zux zuy [true]):=⟨_,_,yhq,Tryz.func58,rfl,by kernel_rfl,by kernel_rfl,by kernel_rfl⟩
theorem yla:zaf Tryz.prog zki (zaa zji zjj []):=⟨_,_,yhr,Tryz.func61,rfl,by kernel_rfl,by kernel_rfl,by kernel_rfl⟩
theorem ylb:zaf Tryz.prog zja (zaa zuz zu0 []):=⟨_,_,yhs,Tryz.func62,rfl,by kernel_rfl,by kernel_rfl,by kernel_rfl⟩
theorem ylc:zaf Tryz.prog zoc (.known [] (zhf 1 16)):=z3y (vars:=[0,2]) (z:=[.v (.string ⟨#[]⟩)]) Tryz.func63 rfl rfl rfl (by kernel_rfl) (by kernel_rfl) (by kernel_rfl) (by kernel_rfl) (by kernel_rfl) (by kernel_rfl) rfl (by kernel_rfl) (by kernel_rfl) (by kernel_rfl) (by kernel_rfl)
theorem yld:zaf Tryz.prog zod (.known [] (zhf 1 8)):=z3y (vars:=[0,2]) (z:=[iv 0]) Tryz.func64 rfl rfl rfl (by kernel_rfl) (by kernel_rfl) (by kernel_rfl) (by kernel_rfl) (by kernel_rfl) (by kernel_rfl) rfl (by kernel_rfl) (by kernel_rfl) (by kernel_rfl) (by kernel_rfl)
theorem yle:zaf Tryz.prog zoe (zaa zu1 zu2 []):=⟨_,_,yht,Tryz.func65,rfl,by kernel_rfl,by kernel_rfl,by kernel_rfl⟩
theorem ylf:zaf Tryz.prog zof (zaa zrt zru []):=⟨_,_,yhu,Tryz.func72,rfl,by kernel_rfl,by kernel_rfl,by kernel_rfl⟩
theorem ylg:zaf Tryz.prog zbi (zaa zu3 zu4 []):=⟨_,_,yhv,Tryz.func78,rfl,by kernel_rfl,by kernel_rfl,by kernel_rfl⟩
theorem ylh:zaf Tryz.prog zog (zaa zu5 zu6 []):=⟨_,_,yhw,Tryz.func79,rfl,by kernel_rfl,by kernel_rfl,by kernel_rfl⟩
theorem yli:zaf Tryz.prog zii (zaa zrv zrw []):=⟨_,_,yhx,Tryz.func80,rfl,by kernel_rfl,by kernel_rfl,by kernel_rfl⟩
theorem ylj:zaf Tryz.prog zoh (zaa zu7 zu8 []):=⟨_,_,yhy,Tryz.func82,rfl,by kernel_rfl,by kernel_rfl,by kernel_rfl⟩
theorem ylk:zaf Tryz.prog zoi (zaa zu9 zva []):=⟨_,_,yhz,Tryz.func83,rfl,by kernel_rfl,by kernel_rfl,by kernel_rfl⟩
theorem yll:zaf Tryz.prog zjb (zaa zjk zjl []):=⟨_,_,yh0,Tryz.func87,rfl,by kernel_rfl,by kernel_rfl,by kernel_rfl⟩
theorem ylm:zaf Tryz.prog zkj (zaa zvb zvc []):=⟨_,_,yh1,Tryz.func88,rfl,by kernel_rfl,by kernel_rfl,by kernel_rfl⟩
theorem yln:zaf Tryz.prog zoj (zaa zvd zve []):=⟨_,_,yh2,Tryz.func89,rfl,by kernel_rfl,by kernel_rfl,by kernel_rfl⟩
theorem ylo:zaf Tryz.prog zbu (zaa zp3 zp4 [true]):=⟨_,_,yh3,Tryz.func90,rfl,by kernel_rfl,by kernel_rfl,by kernel_rfl⟩
theorem ylp:zaf Tryz.prog zok (zaa zmm zmn [true]):=⟨_,_,yh4,Tryz.func92,rfl,by kernel_rfl,by kernel_rfl,by kernel_rfl⟩
theorem ylq:zaf Tryz.prog zol (zaa zvf zvg []):=⟨_,_,yh5,Tryz.func93,rfl,by kernel_rfl,by kernel_rfl,by kernel_rfl⟩
theorem ylr:zaf Tryz.prog zlm (zaa zp5 zp6 []):=⟨_,_,yh6,Tryz.func94,rfl,by kernel_rfl,by kernel_rfl,by kernel_rfl⟩
theorem yls:zaf Tryz.prog zom (zaa zrx zry []):=⟨_,_,yh7,Tryz.func95,rfl,by kernel_rfl,by kernel_rfl,by kernel_rfl⟩
theorem ylt:zaf Tryz.prog zon (zaa zrz zr0 []):=⟨_,_,yh8,Tryz.func96,rfl,by kernel_rfl,by kernel_rfl,by kernel_rfl⟩
theorem ylu:zaf Tryz.prog zoo (zaa zvj zvk []):=⟨_,_,yh9,Tryz.func97,rfl,by kernel_rfl,by kernel_rfl,by kernel_rfl⟩
theorem ylv:zaf Tryz.prog zop (zaa zvm zvn []):=⟨_,_,yia,Tryz.func125,rfl,by kernel_rfl,by kernel_rfl,by kernel_rfl⟩
theorem ylw:zaf Tryz.prog zln (zaa zr2 zkz [true]):=⟨_,_,yib,Tryz.func126,rfl,by kernel_rfl,by kernel_rfl,by kernel_rfl⟩
theorem ylx:zaf Tryz.prog zlo (zaa zmo zmp [true]):=⟨_,_,yic,Tryz.func127,rfl,by kernel_rfl,by kernel_rfl,by kernel_rfl⟩
theorem yly:zaf Tryz.prog zoq (zaa zgs zgt [true]):=⟨_,_,yid,Tryz.func128,rfl,by kernel_rfl,by kernel_rfl,by kernel_rfl⟩
theorem ylz:zaf Tryz.prog zor (zaa zgu zgv [true]):=⟨_,_,yie,Tryz.func129,rfl,by kernel_rfl,by kernel_rfl,by kernel_rfl⟩
theorem yl0:zaf Tryz.prog zos (zaa zr4 zr5 []):=⟨_,_,yif,Tryz.func130,rfl,by kernel_rfl,by kernel_rfl,by kernel_rfl⟩
theorem yl1:zaf Tryz.prog ze8 (zaa zvp zvq [true,true,true]):=⟨_,_,yig,Tryz.func132,rfl,by kernel_rfl,by kernel_rfl,by kernel_rfl⟩
theorem yl2:zaf Tryz.prog zkk (zaa zvr zvs []):=⟨_,_,yih,Tryz.func133,rfl,by kernel_rfl,by kernel_rfl,by kernel_rfl⟩
theorem yl3:zaf Tryz.prog zot (zaa zvt zvu []):=⟨_,_,yii,Tryz.func134,rfl,by kernel_rfl,by kernel_rfl,by kernel_rfl⟩
theorem yl4:zaf Tryz.prog zlp (zaa zvv zvw []):=⟨_,_,yij,Tryz.func135,rfl,by kernel_rfl,by kernel_rfl,by kernel_rfl⟩
theorem yl5:zaf Tryz.prog zlq (zaa zvx zvy []):=⟨_,_,yik,Tryz.func136,rfl,by kernel_rfl,by kernel_rfl,by kernel_rfl⟩
theorem yl6:zaf Tryz.prog zlr (zaa zvz zv0 []):=⟨_,_,yil,Tryz.func137,rfl,by kernel_rfl,by kernel_rfl,by kernel_rfl⟩
theorem yl7:zaf Tryz.prog zou (zaa zv1 zv2 []):=⟨_,_,yim,Tryz.func145,rfl,by kernel_rfl,by kernel_rfl,by kernel_rfl⟩
theorem yl8:zaf Tryz.prog zov (zaa zv3 zv4 []):=⟨_,_,yin,Tryz.func146,rfl,by kernel_rfl,by kernel_rfl,by kernel_rfl⟩
theorem yl9:zaf Tryz.prog zls (zaa zr6 zr7 []):=⟨_,_,yio,Tryz.func147,rfl,by kernel_rfl,by kernel_rfl,by kernel_rfl⟩
theorem yma:zaf Tryz.prog zlu (zaa zv5 zv6 []):=⟨_,_,yip,Tryz.func150,rfl,by kernel_rfl,by kernel_rfl,by kernel_rfl⟩
theorem ymb:zaf Tryz.prog zow (zaa zv7 zv8 []):=⟨_,_,yiq,Tryz.func153,rfl,by kernel_rfl,by kernel_rfl,by kernel_rfl⟩
theorem ymc:zaf Tryz.prog zhh (zaa zr8 zr9 [true]):=⟨_,_,yir,Tryz.func154,rfl,by kernel_rfl,by kernel_rfl,by kernel_rfl⟩
theorem ymd:zaf Tryz.prog zlv (zaa zp7 zp8 [true]):=⟨_,_,yis,Tryz.func156,rfl,by kernel_rfl,by kernel_rfl,by kernel_rfl⟩
theorem yme:zaf Tryz.prog zlw (zaa zv9 zwa []):=⟨_,_,yit,Tryz.func157,rfl,by kernel_rfl,by kernel_rfl,by kernel_rfl⟩
theorem ymf:zaf Tryz.prog zox (zaa zwb zwc []):=⟨_,_,yiu,Tryz.func158,rfl,by kernel_rfl,by kernel_rfl,by kernel_rfl⟩
theorem ymg:zaf Tryz.prog zoy (zaa zp9 zqa []):=⟨_,_,yiv,Tryz.func159,rfl,by kernel_rfl,by kernel_rfl,by kernel_rfl⟩
theorem ymh:zaf Tryz.prog zoz (zaa zwe zwf []):=⟨_,_,yiw,Tryz.func160,rfl,by kernel_rfl,by kernel_rfl,by kernel_rfl⟩
theorem ymi:zaf Tryz.prog zkl (zaa zjn zjo []):=⟨_,_,yix,Tryz.func161,rfl,by kernel_rfl,by kernel_rfl,by kernel_rfl⟩
theorem ymj:zaf Tryz.prog zlx (zaa zmq zmr []):=⟨_,_,yiy,Tryz.func162,rfl,by kernel_rfl,by kernel_rfl,by kernel_rfl⟩
theorem ymk:zaf Tryz.prog zo0 (zaa zwg zwh []):=⟨_,_,yiz,Tryz.func163,rfl,by kernel_rfl,by kernel_rfl,by kernel_rfl⟩
theorem yml:zaf Tryz.prog zjc (zaa zsb zsc []):=⟨_,_,yi0,Tryz.func164,rfl,by kernel_rfl,by kernel_rfl,by kernel_rfl⟩
theorem ymm:zaf Tryz.prog zo1 (zaa zwi zwj []):=⟨_,_,yi1,Tryz.func165,rfl,by kernel_rfl,by kernel_rfl,by kernel_rfl⟩
theorem ymn:zaf Tryz.prog zo2 (zaa zqb zqc []):=⟨_,_,yi2,Tryz.func166,rfl,by kernel_rfl,by kernel_rfl,by kernel_rfl⟩
theorem ymo:zaf Tryz.prog zkm (zaa zsd zse []):=⟨_,_,yi3,Tryz.func167,rfl,by kernel_rfl,by kernel_rfl,by kernel_rfl⟩
theorem ymp:zaf Tryz.prog zo3 (zaa zwk zwl []):=⟨_,_,yi4,Tryz.func168,rfl,by kernel_rfl,by kernel_rfl,by kernel_rfl⟩
theorem ymq:zaf Tryz.prog zly (zaa zwm zwn []):=⟨_,_,yi5,Tryz.func169,rfl,by kernel_rfl,by kernel_rfl,by kernel_rfl⟩
theorem ymr:zaf Tryz.prog zo4 (zaa zqd zqe []):=⟨_,_,yi6,Tryz.func170,rfl,by kernel_rfl,by kernel_rfl,by kernel_rfl⟩
theorem yms:zaf Tryz.prog zlz (zaa zsf zsg []):=⟨_,_,yi7,Tryz.func171,rfl,by kernel_rfl,by kernel_rfl,by kernel_rfl⟩
theorem ymt:zaf Tryz.prog zo5 (zaa zwo zwp []):=⟨_,_,yi8,Tryz.func172,rfl,by kernel_rfl,by kernel_rfl,by kernel_rfl⟩
theorem ymu:zaf Tryz.prog zo6 (zaa zwq zwr []):=⟨_,_,yi9,Tryz.func173,rfl,by kernel_rfl,by kernel_rfl,by kernel_rfl⟩
theorem ymv:zaf Tryz.prog zo7 (zaa zws zwt []):=⟨_,_,yja,Tryz.func174,rfl,by kernel_rfl,by kernel_rfl,by kernel_rfl⟩
theorem ymw:zaf Tryz.prog zl0 (zaa zwu zwv [true,true]):=⟨_,_,yjb,Tryz.func200,rfl,by kernel_rfl,by kernel_rfl,by kernel_rfl⟩
theorem ymx:zaf Tryz.prog zl1 (zaa zww zwx []):=⟨_,_,yjc,Tryz.func204,rfl,by kernel_rfl,by kernel_rfl,by kernel_rfl⟩
theorem ymy:zaf Tryz.prog zo8 (zaa zwy zwz []):=⟨_,_,yjd,Tryz.func205,rfl,by kernel_rfl,by kernel_rfl,by kernel_rfl⟩
theorem ymz:zaf Tryz.prog zo9 (.known [] (zhf 5 40)):=z3y (vars:=[0,2]) (z:=[iv 0,iv 0,iv 0,iv 0,iv 0]) Tryz.func206 rfl rfl rfl (by kernel_rfl) (by kernel_rfl) (by kernel_rfl) (by kernel_rfl) (by kernel_rfl) (by kernel_rfl) rfl (by kernel_rfl) (by kernel_rfl) (by kernel_rfl) (by kernel_rfl)
theorem ym0:zaf Tryz.prog zpa (zaa zw0 zw1 []):=⟨_,_,yje,Tryz.func209,rfl,by kernel_rfl,by kernel_rfl,by kernel_rfl⟩
theorem ym1:zaf Tryz.prog zkn (zaa zw2 zw3 []):=⟨_,_,yjf,Tryz.func210,rfl,by kernel_rfl,by kernel_rfl,by kernel_rfl⟩
theorem ym2:zaf Tryz.prog zpb (zaa zsi zsj []):=⟨_,_,yjg,Tryz.func213,rfl,by kernel_rfl,by kernel_rfl,by kernel_rfl⟩
theorem ym3:zaf Tryz.prog zko (zaa zw4 zw5 []):=⟨_,_,yjh,Tryz.func214,rfl,by kernel_rfl,by kernel_rfl,by kernel_rfl⟩
theorem ym4:zaf Tryz.prog zpc (zaa zw6 zw7 []):=⟨_,_,yji,Tryz.func215,rfl,by kernel_rfl,by kernel_rfl,by kernel_rfl⟩
theorem ym5:zaf Tryz.prog zpd (.known [true] znj):=yu0 Tryz.func216 rfl (by kernel_rfl) (Any.slices_Compact_int Tryz.laysNm220) (Any.slices_Compact_int_empty Tryz.laysNm220)
theorem ym6:zaf Tryz.prog zl2 (zaa zms zmt []):=⟨_,_,yjj,Tryz.func217,rfl,by kernel_rfl,by kernel_rfl,by kernel_rfl⟩
theorem ym7:zaf Tryz.prog zl3 (zaa zw8 zw9 []):=⟨_,_,yjk,Tryz.func218,rfl,by kernel_rfl,by kernel_rfl,by kernel_rfl⟩
theorem ym8:zaf Tryz.prog zpe (zaa zsk zsl []):=⟨_,_,yjl,Tryz.func219,rfl,by kernel_rfl,by kernel_rfl,by kernel_rfl⟩
theorem ym9:zaf Tryz.prog zpf (zaa zxc zxd []):=⟨_,_,yjm,Tryz.func220,rfl,by kernel_rfl,by kernel_rfl,by kernel_rfl⟩
theorem yna:zaf Tryz.prog zpg (zaa zxf zxg []):=⟨_,_,yjn,Tryz.func221,rfl,by kernel_rfl,by kernel_rfl,by kernel_rfl⟩
theorem ynb:zaf Tryz.prog zl4 (zaa zxh zxi []):=⟨_,_,yjo,Tryz.func222,rfl,by kernel_rfl,by kernel_rfl,by kernel_rfl⟩
theorem ync:zaf Tryz.prog zl5 (zaa zxj zxk []):=⟨_,_,yjp,Tryz.func223,rfl,by kernel_rfl,by kernel_rfl,by kernel_rfl⟩
theorem ynd:zaf Tryz.prog zl6 (zaa zsm zsn []):=⟨_,_,yjq,Tryz.func224,rfl,by kernel_rfl,by kernel_rfl,by kernel_rfl⟩
theorem yne:zaf Tryz.prog zph (zaa zxl zxm []):=⟨_,_,yjr,Tryz.func225,rfl,by kernel_rfl,by kernel_rfl,by kernel_rfl⟩
theorem ynf:zaf Tryz.prog zpi (.known [true] zm9):=yxg Tryz.func240 rfl (by kernel_rfl) (Any.slices_Sort_int Tryz.lays189) (Any.slices_Sort_int_none Tryz.lays189)
theorem yng:zaf Tryz.prog zpj (zaa zxn zxo []):=⟨_,_,yjs,Tryz.func241,rfl,by kernel_rfl,by kernel_rfl,by kernel_rfl⟩
theorem ynh:zaf Tryz.prog zl7 (zaa zxp zxq []):=⟨_,_,yjt,Tryz.func242,rfl,by kernel_rfl,by kernel_rfl,by kernel_rfl⟩
theorem yni:zaf Tryz.prog zpk (zaa zso zsp []):=⟨_,_,yju,Tryz.func243,rfl,by kernel_rfl,by kernel_rfl,by kernel_rfl⟩
theorem ynj:zaf Tryz.prog zl8 (zaa zxr zxs []):=⟨_,_,yjv,Tryz.func244,rfl,by kernel_rfl,by kernel_rfl,by kernel_rfl⟩
theorem ynk:zaf Tryz.prog zl9 (zaa zxt zxu []):=⟨_,_,yjw,Tryz.func245,rfl,by kernel_rfl,by kernel_rfl,by kernel_rfl⟩
theorem ynl:zaf Tryz.prog zpl (zaa zxw zxx []):=⟨_,_,yjx,Tryz.func246,rfl,by kernel_rfl,by kernel_rfl,by kernel_rfl⟩
theorem ynm:zaf Tryz.prog zpm (zaa zxy zxz []):=⟨_,_,yjy,Tryz.func247,rfl,by kernel_rfl,by kernel_rfl,by kernel_rfl⟩
theorem ynn:zaf Tryz.prog zkp (zaa zx0 zx1 []):=⟨_,_,yjz,Tryz.func257,rfl,by kernel_rfl,by kernel_rfl,by kernel_rfl⟩
theorem yno:zaf Tryz.prog zpn (zaa zsq zsr []):=⟨_,_,yj0,Tryz.func258,rfl,by kernel_rfl,by kernel_rfl,by kernel_rfl⟩
theorem ynp:zaf Tryz.prog zpo (zaa zx2 zx3 []):=⟨_,_,yj1,Tryz.func259,rfl,by kernel_rfl,by kernel_rfl,by kernel_rfl⟩
theorem ynq:zaf Tryz.prog zkq (zaa zx4 zx5 []):=⟨_,_,yj2,Tryz.func260,rfl,by kernel_rfl,by kernel_rfl,by kernel_rfl⟩
theorem ynr:zaf Tryz.prog zma (zaa zx6 zx7 []):=⟨_,_,yj3,Tryz.func261,rfl,by kernel_rfl,by kernel_rfl,by kernel_rfl⟩
theorem yns:zaf Tryz.prog zpp (zaa zx8 zx9 []):=⟨_,_,yj4,Tryz.func262,rfl,by kernel_rfl,by kernel_rfl,by kernel_rfl⟩
theorem ynt:zaf Tryz.prog zpq (zaa zya zyb []):=⟨_,_,yj5,Tryz.func280,rfl,by kernel_rfl,by kernel_rfl,by kernel_rfl⟩
theorem ynu:zaf Tryz.prog zkr (zaa zss zst []):=⟨_,_,yj6,Tryz.func281,rfl,by kernel_rfl,by kernel_rfl,by kernel_rfl⟩
theorem ynv:zaf Tryz.prog zpr (zaa zsu zsv []):=⟨_,_,yj7,Tryz.func282,rfl,by kernel_rfl,by kernel_rfl,by kernel_rfl⟩
theorem ynw:zaf Tryz.prog zmb (zaa zyc zyd []):=⟨_,_,yj8,Tryz.func283,rfl,by kernel_rfl,by kernel_rfl,by kernel_rfl⟩
theorem ynx:zaf Tryz.prog zps (zaa zye zyf []):=⟨_,_,yj9,Tryz.func284,rfl,by kernel_rfl,by kernel_rfl,by kernel_rfl⟩
theorem yny:zaf Tryz.prog zmc (zaa zyg zyh []):=⟨_,_,yka,Tryz.func285,rfl,by kernel_rfl,by kernel_rfl,by kernel_rfl⟩
theorem ynz:zaf Tryz.prog zmd (zaa zqg zqh []):=⟨_,_,ykb,Tryz.func286,rfl,by kernel_rfl,by kernel_rfl,by kernel_rfl⟩
theorem yn0:zaf Tryz.prog zme (zaa zyi zyj []):=⟨_,_,ykc,Tryz.func297,rfl,by kernel_rfl,by kernel_rfl,by kernel_rfl⟩
theorem yn1:zaf Tryz.prog zpt (zaa zyk zyl []):=⟨_,_,ykd,Tryz.func298,rfl,by kernel_rfl,by kernel_rfl,by kernel_rfl⟩
theorem yn2:zaf Tryz.prog zpu (zaa zjp zjq []):=⟨_,_,yke,Tryz.func299,rfl,by kernel_rfl,by kernel_rfl,by kernel_rfl⟩
theorem yn3:zaf Tryz.prog zmf (zaa zym zyn []):=⟨_,_,ykf,Tryz.func300,rfl,by kernel_rfl,by kernel_rfl,by kernel_rfl⟩
theorem yn4:zaf Tryz.prog zks (zaa zyo zyp []):=⟨_,_,ykg,Tryz.func301,rfl,by kernel_rfl,by kernel_rfl,by kernel_rfl⟩
theorem yn5:zaf Tryz.prog zmg (zaa zhj zhk []):=⟨_,_,ykh,Tryz.func302,rfl,by kernel_rfl,by kernel_rfl,by kernel_rfl⟩
theorem yn6:zaf Tryz.prog zgr (zaa zqi zqj []):=⟨_,_,yki,Tryz.func303,rfl,by kernel_rfl,by kernel_rfl,by kernel_rfl⟩
theorem yn7:zaf Tryz.prog zkt (zaa zyq zyr []):=⟨_,_,ykj,Tryz.func304,rfl,by kernel_rfl,by kernel_rfl,by kernel_rfl⟩
theorem yn8:zaf Tryz.prog zpv (zaa zys zyt []):=⟨_,_,ykk,Tryz.func312,rfl,by kernel_rfl,by kernel_rfl,by kernel_rfl⟩
theorem yn9:zaf Tryz.prog zhi (zaa zmw zmx []):=⟨_,_,ykl,Tryz.func313,rfl,by kernel_rfl,by kernel_rfl,by kernel_rfl⟩
theorem yoa:zaf Tryz.prog zku (.ext zqp):=yqw Tryz.func314 (by kernel_rfl) (by kernel_rfl) (by kernel_rfl) (by kernel_rfl)
theorem yob:zaf Tryz.prog zjd (.ext zq8):=yvz Tryz.func315 (by kernel_rfl) (by kernel_rfl) (by kernel_rfl) (by kernel_rfl)
theorem yoc:zaf Tryz.prog zkv (zaa zyu zyv []):=⟨_,_,ykm,Tryz.func316,rfl,by kernel_rfl,by kernel_rfl,by kernel_rfl⟩
theorem yod:zaf Tryz.prog zkw (zaa zyw zyx []):=⟨_,_,ykn,Tryz.func317,rfl,by kernel_rfl,by kernel_rfl,by kernel_rfl⟩
theorem yoe:zaf Tryz.prog zmh (zaa zqk zql []):=⟨_,_,yko,Tryz.func318,rfl,by kernel_rfl,by kernel_rfl,by kernel_rfl⟩
theorem yof:zaf Tryz.prog zmi (zaa zyy zyz []):=⟨_,_,ykp,Tryz.func323,rfl,by kernel_rfl,by kernel_rfl,by kernel_rfl⟩
set_option maxRecDepth 100000 in
theorem yd9:zj6 Tryz.prog T:=by
 refine yrp ?_
 simp only [tbl,List.forall_mem_cons,List.not_mem_nil,false_imp_iff,implies_true,and_true]
 exact ⟨ykq,ykr,yks,ykt,yku,ykv,ykw,ykx,yky,ykz,yk0,yk1,yk2,yk3,yk4,yk5,yk6,yk7,yk8,yk9,yla,ylb,ylc,yld,yle,ylf,ylg,ylh,yli,ylj,ylk,yll,ylm,yln,ylo,ylp,ylq,ylr,yls,ylt,ylu,ylv,ylw,ylx,yly,ylz,yl0,yl1,yl2,yl3,yl4,yl5,yl6,yl7,yl8,yl9,yma,ymb,ymc,ymd,yme,ymf,ymg,ymh,ymi,ymj,ymk,yml,ymm,ymn,ymo,ymp,ymq,ymr,yms,ymt,ymu,ymv,ymw,ymx,ymy,ymz,ym0,ym1,ym2,ym3,ym4,ym5,ym6,ym7,ym8,ym9,yna,ynb,ync,ynd,yne,ynf,yng,ynh,yni,ynj,ynk,ynl,ynm,ynn,yno,ynp,ynq,ynr,yns,ynt,ynu,ynv,ynw,ynx,yny,ynz,yn0,yn1,yn2,yn3,yn4,yn5,yn6,yn7,yn8,yn9,yoa,yob,yoc,yod,yoe,yof⟩
end Go.Pe
