/- Each compact text is its function of the program (zq4); no condition. -/
import Derived.Test.YtdebkglpapjeiaaRows
import Derived.Test.YtdebkglpapjeiaaK0
import Derived.Test.YtdebkglpapjeiaaEvB2
import Derived.KernelRfl
import Derived.Test.YtdebkglpapjeiaaSh
set_option linter.all false
namespace Go.Pe
open Go Go.Proofs
theorem zv4:zbc Try.prog zi4 (zam zi5 zi6 []):=⟨_,_,zvg,Try.func5,rfl,by kernel_rfl,by kernel_rfl,by kernel_rfl⟩
theorem zv5:zbc Try.prog zhp (zam zj9 zka []):=⟨_,_,zvh,Try.func14,rfl,by kernel_rfl,by kernel_rfl,by kernel_rfl⟩
theorem zv6:zbc Try.prog zhq (zam zkb zkc [true]):=⟨_,_,zvi,Try.func16,rfl,by kernel_rfl,by kernel_rfl,by kernel_rfl⟩
theorem zv7:zbc Try.prog zhr (zam zi7 zi8 []):=⟨_,_,zvj,Try.func18,rfl,by kernel_rfl,by kernel_rfl,by kernel_rfl⟩
theorem zv8:zbc Try.prog zgq (zam zkd zke []):=⟨_,_,zvk,Try.func19,rfl,by kernel_rfl,by kernel_rfl,by kernel_rfl⟩
theorem zv9:zbc Try.prog zfm (zam zkf zkg []):=⟨_,_,zvl,Try.func20,rfl,by kernel_rfl,by kernel_rfl,by kernel_rfl⟩
theorem zwa:zbc Try.prog zga (zam zkh zki []):=⟨_,_,zvm,Try.func21,rfl,by kernel_rfl,by kernel_rfl,by kernel_rfl⟩
theorem zwb:zbc Try.prog zgb (zam zkj zkk []):=⟨_,_,zvn,Try.func22,rfl,by kernel_rfl,by kernel_rfl,by kernel_rfl⟩
theorem zwc:zbc Try.prog zhs (zam zkl zkm [true]):=⟨_,_,zvo,Try.func23,rfl,by kernel_rfl,by kernel_rfl,by kernel_rfl⟩
theorem zwd:zbc Try.prog zgr (zam zkn zko []):=⟨_,_,zvp,Try.func24,rfl,by kernel_rfl,by kernel_rfl,by kernel_rfl⟩
theorem zwe:zbc Try.prog zht (zam zkp zkq []):=⟨_,_,zvq,Try.func40,rfl,by kernel_rfl,by kernel_rfl,by kernel_rfl⟩
theorem zwf:zbc Try.prog zhu (zam zkr zks [true]):=⟨_,_,zvr,Try.func42,rfl,by kernel_rfl,by kernel_rfl,by kernel_rfl⟩
theorem zwg:zbc Try.prog zhv (zam zkt zku []):=⟨_,_,zvs,Try.func44,rfl,by kernel_rfl,by kernel_rfl,by kernel_rfl⟩
theorem zwh:zbc Try.prog zhw (zam zkv zkw []):=⟨_,_,zvt,Try.func45,rfl,by kernel_rfl,by kernel_rfl,by kernel_rfl⟩
theorem zwi:zbc Try.prog zhx (zam zkx zky []):=⟨_,_,zvu,Try.func46,rfl,by kernel_rfl,by kernel_rfl,by kernel_rfl⟩
theorem zwj:zbc Try.prog zhy (zam zkz zk0 []):=⟨_,_,zvv,Try.func47,rfl,by kernel_rfl,by kernel_rfl,by kernel_rfl⟩
theorem zwk:zbc Try.prog zhz (zam zk1 zk2 []):=⟨_,_,zvw,Try.func48,rfl,by kernel_rfl,by kernel_rfl,by kernel_rfl⟩
theorem zwl:zbc Try.prog zh0 (zam zk3 zk4 []):=⟨_,_,zvx,Try.func49,rfl,by kernel_rfl,by kernel_rfl,by kernel_rfl⟩
theorem zwm:zbc Try.prog zh1 (zam zk5 zk6 []):=⟨_,_,zvy,Try.func56,rfl,by kernel_rfl,by kernel_rfl,by kernel_rfl⟩
theorem zwn:zbc Try.prog zh2 (zam zk7 zk8 []):=⟨_,_,zvz,Try.func69,rfl,by kernel_rfl,by kernel_rfl,by kernel_rfl⟩
theorem zwo:zbc Try.prog zh3 (zam zk9 zla []):=⟨_,_,zv0,Try.func72,rfl,by kernel_rfl,by kernel_rfl,by kernel_rfl⟩
theorem zwp:zbc Try.prog zh4 (zam zlc zld []):=⟨_,_,zv1,Try.func73,rfl,by kernel_rfl,by kernel_rfl,by kernel_rfl⟩
theorem zwq:zbc Try.prog zh5 (zam zle zlf []):=⟨_,_,zv2,Try.func74,rfl,by kernel_rfl,by kernel_rfl,by kernel_rfl⟩
theorem zwr:zbc Try.prog zh6 (.known [true] zhe):=z0b Try.func75 rfl (by kernel_rfl) (Any.slices_Compact_int Try.laysNm220) (Any.slices_Compact_int_empty Try.laysNm220)
theorem zws:zbc Try.prog zh7 (zam zlg zlh []):=⟨_,_,zv3,Try.func76,rfl,by kernel_rfl,by kernel_rfl,by kernel_rfl⟩
theorem zwt:zbc Try.prog zh8 (.known [] (zim 1 8)):=zx2 (vars:=[0,2]) (z:=[iv 0]) Try.func96 rfl rfl rfl (by kernel_rfl) (by kernel_rfl) (by kernel_rfl) (by kernel_rfl) (by kernel_rfl) (by kernel_rfl) rfl (by kernel_rfl) (by kernel_rfl) (by kernel_rfl) (by kernel_rfl)
theorem zwu:zbc Try.prog zh9 (.known [true] zhc):=z0j Try.func97 rfl (by kernel_rfl) (Any.slices_Sort_int Try.lays189) (Any.slices_Sort_int_none Try.lays189)
theorem zq4:zf3 Try.prog T:=by
 refine z39 ?_
 simp only [tbl,List.forall_mem_cons,List.not_mem_nil,false_imp_iff,implies_true,and_true]
 exact ⟨zv4,zv5,zv6,zv7,zv8,zv9,zwa,zwb,zwc,zwd,zwe,zwf,zwg,zwh,zwi,zwj,zwk,zwl,zwm,zwn,zwo,zwp,zwq,zwr,zws,zwt,zwu⟩
end Go.Pe
