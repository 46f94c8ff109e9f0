/- Each compact text is its function of the program (zz0); no condition. -/
import Derived.Test.YtdebkglpapjeiaaRows
import Derived.Test.YtdebkglpapjeiaaK0
import Derived.Test.YtdebkglpapjeiaaEvB2
import Derived.KernelRfl
import Derived.Test.YtdebkglpapjeiaaSh
set_option linter.all false
namespace Go.Pe
open Go Go.Proofs
theorem z6q:zal Try.prog zl0 (zab zii zij []):=⟨_,_,z4n,Try.func6,rfl,by kernel_rfl,by kernel_rfl,by kernel_rfl⟩
theorem z6r:zal Try.prog zh4 (zab znh zni []):=⟨_,_,z4o,Try.func19,rfl,by kernel_rfl,by kernel_rfl,by kernel_rfl⟩
theorem z6s:zal Try.prog zgw (zab znj znk []):=⟨_,_,z4p,Try.func21,rfl,by kernel_rfl,by kernel_rfl,by kernel_rfl⟩
theorem z6t:zal Try.prog zjo (zab znl znm []):=⟨_,_,z4q,Try.func25,rfl,by kernel_rfl,by kernel_rfl,by kernel_rfl⟩
theorem z6u:zal Try.prog zjp (zab znn zno []):=⟨_,_,z4r,Try.func26,rfl,by kernel_rfl,by kernel_rfl,by kernel_rfl⟩
theorem z6v:zal Try.prog zjq (zab znq znr []):=⟨_,_,z4s,Try.func27,rfl,by kernel_rfl,by kernel_rfl,by kernel_rfl⟩
theorem z6w:zal Try.prog zjr (zab zns znt []):=⟨_,_,z4t,Try.func28,rfl,by kernel_rfl,by kernel_rfl,by kernel_rfl⟩
theorem z6x:zal Try.prog zjs (zab zl2 zl3 []):=⟨_,_,z4u,Try.func29,rfl,by kernel_rfl,by kernel_rfl,by kernel_rfl⟩
theorem z6y:zal Try.prog zjt (zab znu znv []):=⟨_,_,z4v,Try.func30,rfl,by kernel_rfl,by kernel_rfl,by kernel_rfl⟩
theorem z6z:zal Try.prog zju (zab zl4 zl5 []):=⟨_,_,z4w,Try.func31,rfl,by kernel_rfl,by kernel_rfl,by kernel_rfl⟩
theorem z60:zal Try.prog zjv (zab znw znx []):=⟨_,_,z4x,Try.func32,rfl,by kernel_rfl,by kernel_rfl,by kernel_rfl⟩
theorem z61:zal Try.prog zjw (zab zny znz []):=⟨_,_,z4y,Try.func33,rfl,by kernel_rfl,by kernel_rfl,by kernel_rfl⟩
theorem z62:zal Try.prog zh5 (zab zgy zgz []):=⟨_,_,z4z,Try.func34,rfl,by kernel_rfl,by kernel_rfl,by kernel_rfl⟩
theorem z63:zal Try.prog zjx (zab zik zil []):=⟨_,_,z40,Try.func35,rfl,by kernel_rfl,by kernel_rfl,by kernel_rfl⟩
theorem z64:zal Try.prog zh6 (zab zn0 zn1 []):=⟨_,_,z41,Try.func45,rfl,by kernel_rfl,by kernel_rfl,by kernel_rfl⟩
theorem z65:zal Try.prog zjy (zab zn2 zn3 []):=⟨_,_,z42,Try.func46,rfl,by kernel_rfl,by kernel_rfl,by kernel_rfl⟩
theorem z66:zal Try.prog zh7 (zab zn4 zn5 []):=⟨_,_,z43,Try.func48,rfl,by kernel_rfl,by kernel_rfl,by kernel_rfl⟩
theorem z67:zal Try.prog zjz (zab zn6 zn7 []):=⟨_,_,z44,Try.func49,rfl,by kernel_rfl,by kernel_rfl,by kernel_rfl⟩
theorem z68:zal Try.prog zh8 (zab zn9 zoa []):=⟨_,_,z45,Try.func50,rfl,by kernel_rfl,by kernel_rfl,by kernel_rfl⟩
theorem z69:zal Try.prog zh9 (zab zfk zfl [true]):=⟨_,_,z47,Try.func51,rfl,by kernel_rfl,by kernel_rfl,by kernel_rfl⟩
theorem z7a:zal Try.prog zj0 (zab ze1 ze2 [true]):=⟨_,_,z48,Try.func52,rfl,by kernel_rfl,by kernel_rfl,by kernel_rfl⟩
theorem z7b:zal Try.prog zj1 (zab zob zoc []):=⟨_,_,z49,Try.func53,rfl,by kernel_rfl,by kernel_rfl,by kernel_rfl⟩
theorem z7c:zal Try.prog zj2 (zab zod zoe []):=⟨_,_,z5a,Try.func54,rfl,by kernel_rfl,by kernel_rfl,by kernel_rfl⟩
theorem z7d:zal Try.prog zj3 (zab zof zog []):=⟨_,_,z5b,Try.func55,rfl,by kernel_rfl,by kernel_rfl,by kernel_rfl⟩
theorem z7e:zal Try.prog ze0 (zab zoh zoi []):=⟨_,_,z5c,Try.func56,rfl,by kernel_rfl,by kernel_rfl,by kernel_rfl⟩
theorem z7f:zal Try.prog zj4 (zab zoj zok []):=⟨_,_,z5d,Try.func57,rfl,by kernel_rfl,by kernel_rfl,by kernel_rfl⟩
theorem z7g:zal Try.prog zgx (zab zol zom [true]):=⟨_,_,z5e,Try.func58,rfl,by kernel_rfl,by kernel_rfl,by kernel_rfl⟩
theorem z7h:zal Try.prog zbd (zab zk3 zk4 [true]):=⟨_,_,z5f,Try.func59,rfl,by kernel_rfl,by kernel_rfl,by kernel_rfl⟩
theorem z7i:zal Try.prog zj5 (zab zon zoo [true]):=⟨_,_,z5g,Try.func60,rfl,by kernel_rfl,by kernel_rfl,by kernel_rfl⟩
theorem z7j:zal Try.prog zj6 (zab zop zoq []):=⟨_,_,z5h,Try.func61,rfl,by kernel_rfl,by kernel_rfl,by kernel_rfl⟩
theorem z7k:zal Try.prog zj7 (zab zor zos []):=⟨_,_,z5i,Try.func62,rfl,by kernel_rfl,by kernel_rfl,by kernel_rfl⟩
theorem z7l:zal Try.prog zdf (zab zot zou []):=⟨_,_,z5j,Try.func63,rfl,by kernel_rfl,by kernel_rfl,by kernel_rfl⟩
theorem z7m:zal Try.prog zj8 (zab zov zow []):=⟨_,_,z5k,Try.func64,rfl,by kernel_rfl,by kernel_rfl,by kernel_rfl⟩
theorem z7n:zal Try.prog zj9 (zab zox zoy []):=⟨_,_,z5l,Try.func65,rfl,by kernel_rfl,by kernel_rfl,by kernel_rfl⟩
theorem z7o:zal Try.prog zka (zab zoz zo0 []):=⟨_,_,z5m,Try.func66,rfl,by kernel_rfl,by kernel_rfl,by kernel_rfl⟩
theorem z7p:zal Try.prog zcr (zab zo1 zo2 []):=⟨_,_,z5n,Try.func67,rfl,by kernel_rfl,by kernel_rfl,by kernel_rfl⟩
theorem z7q:zal Try.prog zkb (zab zo3 zo4 []):=⟨_,_,z5o,Try.func68,rfl,by kernel_rfl,by kernel_rfl,by kernel_rfl⟩
theorem z7r:zal Try.prog zgc (zab zo5 zo6 []):=⟨_,_,z5p,Try.func69,rfl,by kernel_rfl,by kernel_rfl,by kernel_rfl⟩
theorem z7s:zal Try.prog zia (zab zo7 zo8 []):=⟨_,_,z5q,Try.func70,rfl,by kernel_rfl,by kernel_rfl,by kernel_rfl⟩
theorem z7t:zal Try.prog zib (zab zo9 zpa []):=⟨_,_,z5r,Try.func71,rfl,by kernel_rfl,by kernel_rfl,by kernel_rfl⟩
theorem z7u:zal Try.prog zkc (zab zpc zpd []):=⟨_,_,z5s,Try.func73,rfl,by kernel_rfl,by kernel_rfl,by kernel_rfl⟩
theorem z7v:zal Try.prog zkd (.known [true] zjm):=ygs Try.func75 rfl (by kernel_rfl) (Any.slices_Compact_int Try.laysNm220) (Any.slices_Compact_int_empty Try.laysNm220)
theorem z7w:zal Try.prog zke (zab zpe zpf []):=⟨_,_,z5t,Try.func76,rfl,by kernel_rfl,by kernel_rfl,by kernel_rfl⟩
theorem z7x:zal Try.prog zkf (zab zpg zph [true]):=⟨_,_,z5u,Try.func77,rfl,by kernel_rfl,by kernel_rfl,by kernel_rfl⟩
theorem z7y:zal Try.prog zdg (zab zpi zpj [true,true,true]):=⟨_,_,z5v,Try.func78,rfl,by kernel_rfl,by kernel_rfl,by kernel_rfl⟩
theorem z7z:zal Try.prog zkg (zab zim zio [true]):=⟨_,_,z5w,Try.func79,rfl,by kernel_rfl,by kernel_rfl,by kernel_rfl⟩
theorem z70:zal Try.prog zkh (.known [] (zg5 5 40)):=z19 (vars:=[0,2]) (z:=[iv 0,iv 0,iv 0,iv 0,iv 0]) Try.func80 rfl rfl rfl (by kernel_rfl) (by kernel_rfl) (by kernel_rfl) (by kernel_rfl) (by kernel_rfl) (by kernel_rfl) rfl (by kernel_rfl) (by kernel_rfl) (by kernel_rfl) (by kernel_rfl)
theorem z71:zal Try.prog zki (zab zpk zpl []):=⟨_,_,z5x,Try.func81,rfl,by kernel_rfl,by kernel_rfl,by kernel_rfl⟩
theorem z72:zal Try.prog zic (zab zpm zpn []):=⟨_,_,z5y,Try.func82,rfl,by kernel_rfl,by kernel_rfl,by kernel_rfl⟩
theorem z73:zal Try.prog zkj (zab zpo zpp []):=⟨_,_,z5z,Try.func83,rfl,by kernel_rfl,by kernel_rfl,by kernel_rfl⟩
theorem z74:zal Try.prog zkk (zab zpq zpr []):=⟨_,_,z50,Try.func84,rfl,by kernel_rfl,by kernel_rfl,by kernel_rfl⟩
theorem z75:zal Try.prog zid (zab zps zpt []):=⟨_,_,z52,Try.func85,rfl,by kernel_rfl,by kernel_rfl,by kernel_rfl⟩
theorem z76:zal Try.prog zkl (zab zpu zpv []):=⟨_,_,z54,Try.func86,rfl,by kernel_rfl,by kernel_rfl,by kernel_rfl⟩
theorem z77:zal Try.prog zfj (zab zl7 zl8 [true]):=⟨_,_,z55,Try.func87,rfl,by kernel_rfl,by kernel_rfl,by kernel_rfl⟩
theorem z78:zal Try.prog zkm (zab ziq zir [true]):=⟨_,_,z56,Try.func88,rfl,by kernel_rfl,by kernel_rfl,by kernel_rfl⟩
theorem z79:zal Try.prog zkn (zab zpw zpx []):=⟨_,_,z57,Try.func89,rfl,by kernel_rfl,by kernel_rfl,by kernel_rfl⟩
theorem z8a:zal Try.prog zko (zab zpy zpz []):=⟨_,_,z58,Try.func90,rfl,by kernel_rfl,by kernel_rfl,by kernel_rfl⟩
theorem z8b:zal Try.prog zie (zab zp0 zp1 []):=⟨_,_,z59,Try.func91,rfl,by kernel_rfl,by kernel_rfl,by kernel_rfl⟩
theorem z8c:zal Try.prog zhp (zab zp2 zp3 []):=⟨_,_,z6a,Try.func92,rfl,by kernel_rfl,by kernel_rfl,by kernel_rfl⟩
theorem z8d:zal Try.prog zkp (zab zp4 zp5 []):=⟨_,_,z6b,Try.func93,rfl,by kernel_rfl,by kernel_rfl,by kernel_rfl⟩
theorem z8e:zal Try.prog zif (zab zp6 zp7 []):=⟨_,_,z6c,Try.func94,rfl,by kernel_rfl,by kernel_rfl,by kernel_rfl⟩
theorem z8f:zal Try.prog zkq (zab zp8 zp9 [true]):=⟨_,_,z6d,Try.func95,rfl,by kernel_rfl,by kernel_rfl,by kernel_rfl⟩
theorem z8g:zal Try.prog zkr (.known [] (zg5 1 8)):=z19 (vars:=[0,2]) (z:=[iv 0]) Try.func96 rfl rfl rfl (by kernel_rfl) (by kernel_rfl) (by kernel_rfl) (by kernel_rfl) (by kernel_rfl) (by kernel_rfl) rfl (by kernel_rfl) (by kernel_rfl) (by kernel_rfl) (by kernel_rfl)
theorem z8h:zal Try.prog zks (.known [true] zi5):=yel Try.func97 rfl (by kernel_rfl) (Any.slices_Sort_int Try.lays189) (Any.slices_Sort_int_none Try.lays189)
theorem z8i:zal Try.prog zkt (zab zqa zqb []):=⟨_,_,z6e,Try.func98,rfl,by kernel_rfl,by kernel_rfl,by kernel_rfl⟩
theorem z8j:zal Try.prog zku (zab zqc zqd []):=⟨_,_,z6f,Try.func99,rfl,by kernel_rfl,by kernel_rfl,by kernel_rfl⟩
theorem z8k:zal Try.prog zkv (zab zqe zqf []):=⟨_,_,z6g,Try.func100,rfl,by kernel_rfl,by kernel_rfl,by kernel_rfl⟩
theorem z8l:zal Try.prog zig (zab zqg zqh []):=⟨_,_,z6h,Try.func101,rfl,by kernel_rfl,by kernel_rfl,by kernel_rfl⟩
theorem z8m:zal Try.prog zkw (zab zqi zqj []):=⟨_,_,z6i,Try.func102,rfl,by kernel_rfl,by kernel_rfl,by kernel_rfl⟩
theorem z8n:zal Try.prog zkx (zab zqk zql []):=⟨_,_,z6j,Try.func103,rfl,by kernel_rfl,by kernel_rfl,by kernel_rfl⟩
theorem z8o:zal Try.prog zky (zab zqm zqn []):=⟨_,_,z6k,Try.func104,rfl,by kernel_rfl,by kernel_rfl,by kernel_rfl⟩
theorem z8p:zal Try.prog zkz (zab zqo zqp []):=⟨_,_,z6l,Try.func105,rfl,by kernel_rfl,by kernel_rfl,by kernel_rfl⟩
theorem z8q:zal Try.prog zk0 (zab zqq zqr []):=⟨_,_,z6m,Try.func106,rfl,by kernel_rfl,by kernel_rfl,by kernel_rfl⟩
theorem z8r:zal Try.prog zih (zab zqs zqt []):=⟨_,_,z6n,Try.func107,rfl,by kernel_rfl,by kernel_rfl,by kernel_rfl⟩
theorem z8s:zal Try.prog zk1 (zab zqu zqv []):=⟨_,_,z6o,Try.func110,rfl,by kernel_rfl,by kernel_rfl,by kernel_rfl⟩
theorem z8t:zal Try.prog zk2 (zab zqw zqx []):=⟨_,_,z6p,Try.func111,rfl,by kernel_rfl,by kernel_rfl,by kernel_rfl⟩
theorem zz0:zhm Try.prog T:=by
 refine ye7 ?_
 simp only [tbl,List.forall_mem_cons,List.not_mem_nil,false_imp_iff,implies_true,and_true]
 exact ⟨z6q,z6r,z6s,z6t,z6u,z6v,z6w,z6x,z6y,z6z,z60,z61,z62,z63,z64,z65,z66,z67,z68,z69,z7a,z7b,z7c,z7d,z7e,z7f,z7g,z7h,z7i,z7j,z7k,z7l,z7m,z7n,z7o,z7p,z7q,z7r,z7s,z7t,z7u,z7v,z7w,z7x,z7y,z7z,z70,z71,z72,z73,z74,z75,z76,z77,z78,z79,z8a,z8b,z8c,z8d,z8e,z8f,z8g,z8h,z8i,z8j,z8k,z8l,z8m,z8n,z8o,z8p,z8q,z8r,z8s,z8t⟩
end Go.Pe
