/-
  What is proved: lemmas for the laws. No condition.
-/
import Derived.Test.YtbghjecopkbhlaaGreatMa
import Derived.Test.YtbghjecopkbhlaaGreatProg
import Derived.KernelRfl
import Derived.Test.YtbghjecopkbhlaaGreatRe
set_option linter.unusedVariables false
set_option linter.unusedSimpArgs false
namespace Go.Wr
open Go.Proofs
def ae:Nat->FuncId:=fun g=>[184,164,196,249,195,120,90,153,240,279,250,231,232,162,233,275,236,235,234,166,163,242,183,226,228,65,227,186,229,230,161,89,167,165,85,86,303,276,198,238,237,168,87,88,23,16,66,68,67,17,91,24,157,72,158,73,225,155,70,154,69,156,71,18,82,83,21,80,74,81,25,78,79,159,76,75,77,19,20,129,48,268,215,213,133,52,134,53,214,131,50,130,49,132,51,13,147,59,272,224,271,222,151,63,152,64,223,149,61,148,60,150,62,15,190,216,135,146,138,56,144,143,141,292,270,269,220,218,160,114,84,217,58,243,185,191,219,136,241,182,137,140,139,55,54,221,142,145,57,14,3,26,22,4,174,175,176,178,177,179,94,95,28,96,100,101,180,98,97,99,29,239,173,171,172,169,170,92,93,27,5,104,106,105,108,103,31,181,102,30,6,33,32,7,109,35,107,34,8,197,121,194,119,39,280,251,199,122,252,200,123,40,201,124,202,125,41,277,244,187,110,245,188,111,36,278,247,192,117,248,193,118,38,116,113,246,189,112,115,37,9,257,286,285,259,258,287,260,208,289,264,262,266,288,265,263,261,267,210,209,212,211,128,43,126,204,207,206,282,283,255,254,304,281,253,203,284,256,205,127,42,10,45,44,11,47,46,12].getD g 0
theorem nb:Tryz.prog.follows .mixedOrders=true:=by kernel_rfl
end Go.Wr
namespace Go.Wr
open Go.Proofs Go.Sort Go.Shelf
def atE:Ren:=⟨fun|6=>234|15=>274|14=>273|28=>301|29=>302|20=>293|21=>294|22=>295|23=>296|24=>297|25=>298|26=>299|27=>300|46=>306|47=>307|48=>308|49=>309|50=>310|57=>312|n=>n,fun|22=>52|24=>115|25=>242|3=>3|39=>271|0=>0|53=>295|55=>297|4=>4|46=>288|45=>287|50=>292|5=>5|9=>9|66=>299|70=>303|76=>306|77=>255|n=>n,fun n=>n⟩
theorem atD:SlLaysF0.n6 Tryz.prog atE:={
 mixed:=by kernel_rfl,
 f6:=⟨Tryz.f234.name,by decide,Tryz.func234.trans (congrArg some (by kernel_rfl))⟩,
 f14:=⟨Tryz.f273.name,by decide,Tryz.func273.trans (congrArg some (by kernel_rfl))⟩,
 f15:=Tryz.func274.trans (congrArg some (by kernel_rfl)),
 f20:=⟨Tryz.f293.name,by decide,Tryz.func293.trans (congrArg some (by kernel_rfl))⟩,
 f21:=⟨Tryz.f294.name,by decide,Tryz.func294.trans (congrArg some (by kernel_rfl))⟩,
 f22:=⟨Tryz.f295.name,by decide,Tryz.func295.trans (congrArg some (by kernel_rfl))⟩,
 f23:=⟨Tryz.f296.name,by decide,Tryz.func296.trans (congrArg some (by kernel_rfl))⟩,
 f24:=⟨Tryz.f297.name,by decide,Tryz.func297.trans (congrArg some (by kernel_rfl))⟩,
 f25:=⟨Tryz.f298.name,by decide,Tryz.func298.trans (congrArg some (by kernel_rfl))⟩,
 f26:=⟨Tryz.f299.name,by decide,Tryz.func299.trans (congrArg some (by kernel_rfl))⟩,
 f27:=⟨Tryz.f300.name,by decide,Tryz.func300.trans (congrArg some (by kernel_rfl))⟩,
 f28:=Tryz.func301.trans (congrArg some (by kernel_rfl)),
 f29:=Tryz.func302.trans (congrArg some (by kernel_rfl)),
 f46:=⟨Tryz.f306.name,by decide,Tryz.func306.trans (congrArg some (by kernel_rfl))⟩,
 f47:=Tryz.func307.trans (congrArg some (by kernel_rfl)),
 f48:=Tryz.func308.trans (congrArg some (by kernel_rfl)),
 f49:=⟨Tryz.f309.name,by decide,Tryz.func309.trans (congrArg some (by kernel_rfl))⟩,
 f50:=⟨Tryz.f310.name,by decide,Tryz.func310.trans (congrArg some (by kernel_rfl))⟩,
 f57:=⟨Tryz.f312.name,by decide,Tryz.func312.trans (congrArg some (by kernel_rfl))⟩,
 t0:=Tryz.underlying0,
 a0:=Tryz.isAgg0,
 z0:=Tryz.sizeOf0,
 v0:=Tryz.zeroValue0,
 t3:=Tryz.underlying3,
 a3:=Tryz.isAgg3,
 z3:=Tryz.sizeOf3,
 v3:=Tryz.zeroValue3,
 t4:=Tryz.underlying4,
 a4:=Tryz.isAgg4,
 z4:=Tryz.sizeOf4,
 v4:=Tryz.zeroValue4,
 t5:=Tryz.underlying5,
 a5:=Tryz.isAgg5,
 z5:=Tryz.sizeOf5,
 v5:=Tryz.zeroValue5,
 t9:=Tryz.underlying9,
 a9:=Tryz.isAgg9,
 z9:=Tryz.sizeOf9,
 v9:=Tryz.zeroValue9,
 t22:=Tryz.underlying52,
 a22:=Tryz.isAgg52,
 z22:=Tryz.sizeOf52,
 v22:=Tryz.zeroValue52,
 t25:=Tryz.underlying242,
 a25:=Tryz.isAgg242,
 z25:=Tryz.sizeOf242,
 v25:=Tryz.zeroValue242,
 t39:=Tryz.underlying271,
 a39:=Tryz.isAgg271,
 z39:=Tryz.sizeOf271,
 v39:=Tryz.zeroValue271,
 t45:=Tryz.underlying287,
 a45:=Tryz.isAgg287,
 z45:=Tryz.sizeOf287,
 v45:=Tryz.zeroValue287,
 t46:=Tryz.underlying288,
 a46:=Tryz.isAgg288,
 z46:=Tryz.sizeOf288,
 v46:=Tryz.zeroValue288,
 t50:=Tryz.underlying292,
 a50:=Tryz.isAgg292,
 z50:=Tryz.sizeOf292,
 v50:=Tryz.zeroValue292,
 t53:=Tryz.underlying295,
 a53:=Tryz.isAgg295,
 z53:=Tryz.sizeOf295,
 v53:=Tryz.zeroValue295,
 t55:=Tryz.underlying297,
 a55:=Tryz.isAgg297,
 z55:=Tryz.sizeOf297,
 v55:=Tryz.zeroValue297,
 t66:=Tryz.underlying299,
 a66:=Tryz.isAgg299,
 z66:=Tryz.sizeOf299,
 v66:=Tryz.zeroValue299,
 t70:=Tryz.underlying303,
 a70:=Tryz.isAgg303,
 z70:=Tryz.sizeOf303,
 v70:=Tryz.zeroValue303,
 t76:=Tryz.underlying306,
 a76:=Tryz.isAgg306,
 z76:=Tryz.sizeOf306,
 v76:=Tryz.zeroValue306,
 t77:=Tryz.underlying255,
 a77:=Tryz.isAgg255,
 z77:=Tryz.sizeOf255,
 v77:=Tryz.zeroValue255}
theorem Z5 (x y:Int) (W:World):Calls Tryz.prog 236 #[.int .i64 x,.int .i64 y] W fun e w'=>e=.returned (.int .i64 (Lib.compareInt x y))/\w'=W:=by
 go_enter Tryz.func236,Tryz.ntmps236
 go_wp2
 all_goals
  go_ret
  refine⟨?_,rfl⟩
 ·rw[Lib.compareInt,if_pos (by omega)];rfl
 ·rw[Lib.compareInt,if_neg (by omega),if_pos (by omega)];rfl
 ·rw[Lib.compareInt,if_neg (by omega),if_neg (by omega)];rfl
theorem Z4 (x y:Int×Int) (W:World):Calls Tryz.prog 235 #[.agg #[.int .i64 x.1,.int .i64 x.2],.agg #[.int .i64 y.1,.int .i64 y.2]] W fun e w'=>e=.returned (.int .i64 (Lib.compareInt x.1 y.1))/\∃q T4,w'=grow (W.drewN q) T4:=by
 have Gk:=fun W'=>Z5 x.1 y.1 W';generalize Lib.compareInt x.1 y.1=r at Gk⊢
 go_enter Tryz.func235,Tryz.ntmps235
 go_wp2_with (go_at_call 236;refine(Gk _).mono ?_;rintro e w' ⟨rfl,rfl⟩)
 go_ret
 exact⟨rfl,0,_,by rw[alloc_eq_grow,alloc_eq_grow,grow_grow];rfl⟩
theorem arx:ik Tryz.prog ae RN D6:=by
 unfold D6;rw[rX];exact Zpt atD Tryz.isAgg115 Tryz.sizeOf115 rfl (enters_of Tryz.func235 (by kernel_rfl) rfl) Z4
end Go.Wr

