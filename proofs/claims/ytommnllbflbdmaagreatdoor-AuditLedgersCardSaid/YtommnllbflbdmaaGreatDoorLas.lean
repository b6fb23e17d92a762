/- Lemmas. -/
import Derived.Shelf.SlGeneric
import Derived.Shelf.SlLaysF
import Derived.Shelf.SlLaysF0
import Derived.Ground.SlsfProg
import Derived.Test.YtommnllbflbdmaaGreatDoorLar
set_option linter.all false
set_option maxHeartbeats 1000000
namespace Go.Proofs
open Go.Shelf
def Tryz.sortI_ren:Go.Shelf.Ren:=⟨fun|6=>323|15=>109|14=>335|28=>166|29=>167|20=>339|21=>340|22=>341|23=>342|24=>343|25=>344|26=>345|27=>346|46=>347|47=>247|48=>248|49=>348|50=>349|57=>350|n=>n,fun|22=>22|24=>3|25=>23|3=>3|39=>100|0=>0|53=>236|55=>238|4=>4|46=>229|45=>228|50=>233|5=>5|9=>9|66=>294|70=>298|76=>318|77=>319|n=>n,fun|n=>n⟩
theorem Tryz.sortI:Go.Proofs.SlLaysF.n6 Tryz.prog Tryz.sortI_ren:={
 mixed:=by kernel_rfl
 f6:=⟨Tryz.f323.name,by decide,Tryz.func323.trans (congrArg some (by kernel_rfl))⟩
 f14:=⟨Tryz.f335.name,by decide,Tryz.func335.trans (congrArg some (by kernel_rfl))⟩
 f15:=Tryz.func109.trans (congrArg some (by kernel_rfl))
 f20:=⟨Tryz.f339.name,by decide,Tryz.func339.trans (congrArg some (by kernel_rfl))⟩
 f21:=⟨Tryz.f340.name,by decide,Tryz.func340.trans (congrArg some (by kernel_rfl))⟩
 f22:=⟨Tryz.f341.name,by decide,Tryz.func341.trans (congrArg some (by kernel_rfl))⟩
 f23:=⟨Tryz.f342.name,by decide,Tryz.func342.trans (congrArg some (by kernel_rfl))⟩
 f24:=⟨Tryz.f343.name,by decide,Tryz.func343.trans (congrArg some (by kernel_rfl))⟩
 f25:=⟨Tryz.f344.name,by decide,Tryz.func344.trans (congrArg some (by kernel_rfl))⟩
 f26:=⟨Tryz.f345.name,by decide,Tryz.func345.trans (congrArg some (by kernel_rfl))⟩
 f27:=⟨Tryz.f346.name,by decide,Tryz.func346.trans (congrArg some (by kernel_rfl))⟩
 f28:=Tryz.func166.trans (congrArg some (by kernel_rfl))
 f29:=Tryz.func167.trans (congrArg some (by kernel_rfl))
 f46:=⟨Tryz.f347.name,by decide,Tryz.func347.trans (congrArg some (by kernel_rfl))⟩
 f47:=Tryz.func247.trans (congrArg some (by kernel_rfl))
 f48:=Tryz.func248.trans (congrArg some (by kernel_rfl))
 f49:=⟨Tryz.f348.name,by decide,Tryz.func348.trans (congrArg some (by kernel_rfl))⟩
 f50:=⟨Tryz.f349.name,by decide,Tryz.func349.trans (congrArg some (by kernel_rfl))⟩
 f57:=⟨Tryz.f350.name,by decide,Tryz.func350.trans (congrArg some (by kernel_rfl))⟩
 t0:=Tryz.underlying0
 a0:=Tryz.isAgg0
 z0:=Tryz.sizeOf0
 v0:=Tryz.zeroValue0
 t3:=Tryz.underlying3
 a3:=Tryz.isAgg3
 z3:=Tryz.sizeOf3
 v3:=Tryz.zeroValue3
 t4:=Tryz.underlying4
 a4:=Tryz.isAgg4
 z4:=Tryz.sizeOf4
 v4:=Tryz.zeroValue4
 t5:=Tryz.underlying5
 a5:=Tryz.isAgg5
 z5:=Tryz.sizeOf5
 v5:=Tryz.zeroValue5
 t9:=Tryz.underlying9
 a9:=Tryz.isAgg9
 z9:=Tryz.sizeOf9
 v9:=Tryz.zeroValue9
 t22:=Tryz.underlying22
 a22:=Tryz.isAgg22
 z22:=Tryz.sizeOf22
 v22:=Tryz.zeroValue22
 a24:=Tryz.isAgg3
 z24:=Tryz.sizeOf3
 t25:=Tryz.underlying23
 a25:=Tryz.isAgg23
 z25:=Tryz.sizeOf23
 v25:=Tryz.zeroValue23
 t39:=Tryz.underlying100
 a39:=Tryz.isAgg100
 z39:=Tryz.sizeOf100
 v39:=Tryz.zeroValue100
 t45:=Tryz.underlying228
 a45:=Tryz.isAgg228
 z45:=Tryz.sizeOf228
 v45:=Tryz.zeroValue228
 t46:=Tryz.underlying229
 a46:=Tryz.isAgg229
 z46:=Tryz.sizeOf229
 v46:=Tryz.zeroValue229
 t50:=Tryz.underlying233
 a50:=Tryz.isAgg233
 z50:=Tryz.sizeOf233
 v50:=Tryz.zeroValue233
 t53:=Tryz.underlying236
 a53:=Tryz.isAgg236
 z53:=Tryz.sizeOf236
 v53:=Tryz.zeroValue236
 t55:=Tryz.underlying238
 a55:=Tryz.isAgg238
 z55:=Tryz.sizeOf238
 v55:=Tryz.zeroValue238
 t66:=Tryz.underlying294
 a66:=Tryz.isAgg294
 z66:=Tryz.sizeOf294
 v66:=Tryz.zeroValue294
 t70:=Tryz.underlying298
 a70:=Tryz.isAgg298
 z70:=Tryz.sizeOf298
 v70:=Tryz.zeroValue298
 t76:=Tryz.underlying318
 a76:=Tryz.isAgg318
 z76:=Tryz.sizeOf318
 v76:=Tryz.zeroValue318
 t77:=Tryz.underlying319
 a77:=Tryz.isAgg319
 z77:=Tryz.sizeOf319
 v77:=Tryz.zeroValue319 }
def Tryz.sortH_ren:Go.Shelf.Ren:=⟨fun|6=>56|15=>109|14=>108|28=>166|29=>167|20=>158|21=>159|22=>160|23=>161|24=>162|25=>163|26=>164|27=>165|46=>246|47=>247|48=>248|49=>249|50=>250|57=>279|n=>n,fun|22=>53|24=>112|25=>120|3=>3|39=>100|0=>0|53=>236|55=>238|4=>4|46=>229|45=>228|50=>233|5=>5|9=>9|66=>294|70=>298|76=>318|77=>319|n=>n,fun|n=>n⟩
theorem Tryz.sortH:Go.Proofs.SlLaysF0.n6 Tryz.prog Tryz.sortH_ren:={
 mixed:=by kernel_rfl
 f6:=⟨Tryz.f56.name,by decide,Tryz.func56.trans (congrArg some (by kernel_rfl))⟩
 f14:=⟨Tryz.f108.name,by decide,Tryz.func108.trans (congrArg some (by kernel_rfl))⟩
 f15:=Tryz.func109.trans (congrArg some (by kernel_rfl))
 f20:=⟨Tryz.f158.name,by decide,Tryz.func158.trans (congrArg some (by kernel_rfl))⟩
 f21:=⟨Tryz.f159.name,by decide,Tryz.func159.trans (congrArg some (by kernel_rfl))⟩
 f22:=⟨Tryz.f160.name,by decide,Tryz.func160.trans (congrArg some (by kernel_rfl))⟩
 f23:=⟨Tryz.f161.name,by decide,Tryz.func161.trans (congrArg some (by kernel_rfl))⟩
 f24:=⟨Tryz.f162.name,by decide,Tryz.func162.trans (congrArg some (by kernel_rfl))⟩
 f25:=⟨Tryz.f163.name,by decide,Tryz.func163.trans (congrArg some (by kernel_rfl))⟩
 f26:=⟨Tryz.f164.name,by decide,Tryz.func164.trans (congrArg some (by kernel_rfl))⟩
 f27:=⟨Tryz.f165.name,by decide,Tryz.func165.trans (congrArg some (by kernel_rfl))⟩
 f28:=Tryz.func166.trans (congrArg some (by kernel_rfl))
 f29:=Tryz.func167.trans (congrArg some (by kernel_rfl))
 f46:=⟨Tryz.f246.name,by decide,Tryz.func246.trans (congrArg some (by kernel_rfl))⟩
 f47:=Tryz.func247.trans (congrArg some (by kernel_rfl))
 f48:=Tryz.func248.trans (congrArg some (by kernel_rfl))
 f49:=⟨Tryz.f249.name,by decide,Tryz.func249.trans (congrArg some (by kernel_rfl))⟩
 f50:=⟨Tryz.f250.name,by decide,Tryz.func250.trans (congrArg some (by kernel_rfl))⟩
 f57:=⟨Tryz.f279.name,by decide,Tryz.func279.trans (congrArg some (by kernel_rfl))⟩
 t0:=Tryz.underlying0
 a0:=Tryz.isAgg0
 z0:=Tryz.sizeOf0
 v0:=Tryz.zeroValue0
 t3:=Tryz.underlying3
 a3:=Tryz.isAgg3
 z3:=Tryz.sizeOf3
 v3:=Tryz.zeroValue3
 t4:=Tryz.underlying4
 a4:=Tryz.isAgg4
 z4:=Tryz.sizeOf4
 v4:=Tryz.zeroValue4
 t5:=Tryz.underlying5
 a5:=Tryz.isAgg5
 z5:=Tryz.sizeOf5
 v5:=Tryz.zeroValue5
 t9:=Tryz.underlying9
 a9:=Tryz.isAgg9
 z9:=Tryz.sizeOf9
 v9:=Tryz.zeroValue9
 t22:=Tryz.underlying53
 a22:=Tryz.isAgg53
 z22:=Tryz.sizeOf53
 v22:=Tryz.zeroValue53
 t25:=Tryz.underlying120
 a25:=Tryz.isAgg120
 z25:=Tryz.sizeOf120
 v25:=Tryz.zeroValue120
 t39:=Tryz.underlying100
 a39:=Tryz.isAgg100
 z39:=Tryz.sizeOf100
 v39:=Tryz.zeroValue100
 t45:=Tryz.underlying228
 a45:=Tryz.isAgg228
 z45:=Tryz.sizeOf228
 v45:=Tryz.zeroValue228
 t46:=Tryz.underlying229
 a46:=Tryz.isAgg229
 z46:=Tryz.sizeOf229
 v46:=Tryz.zeroValue229
 t50:=Tryz.underlying233
 a50:=Tryz.isAgg233
 z50:=Tryz.sizeOf233
 v50:=Tryz.zeroValue233
 t53:=Tryz.underlying236
 a53:=Tryz.isAgg236
 z53:=Tryz.sizeOf236
 v53:=Tryz.zeroValue236
 t55:=Tryz.underlying238
 a55:=Tryz.isAgg238
 z55:=Tryz.sizeOf238
 v55:=Tryz.zeroValue238
 t66:=Tryz.underlying294
 a66:=Tryz.isAgg294
 z66:=Tryz.sizeOf294
 v66:=Tryz.zeroValue294
 t70:=Tryz.underlying298
 a70:=Tryz.isAgg298
 z70:=Tryz.sizeOf298
 v70:=Tryz.zeroValue298
 t76:=Tryz.underlying318
 a76:=Tryz.isAgg318
 z76:=Tryz.sizeOf318
 v76:=Tryz.zeroValue318
 t77:=Tryz.underlying319
 a77:=Tryz.isAgg319
 z77:=Tryz.sizeOf319
 v77:=Tryz.zeroValue319 }
def Tryz.sortL_ren:Go.Shelf.Ren:=⟨fun|6=>282|15=>109|14=>298|28=>166|29=>167|20=>312|21=>313|22=>314|23=>315|24=>316|25=>317|26=>318|27=>319|46=>331|47=>247|48=>248|49=>332|50=>333|57=>338|n=>n,fun|22=>72|24=>91|25=>313|3=>3|39=>100|0=>0|53=>236|55=>238|4=>4|46=>229|45=>228|50=>233|5=>5|9=>9|66=>294|70=>298|76=>318|77=>319|n=>n,fun|n=>n⟩
theorem Tryz.sortL:Go.Proofs.SlLaysF0.n6 Tryz.prog Tryz.sortL_ren:={
 mixed:=by kernel_rfl
 f6:=⟨Tryz.f282.name,by decide,Tryz.func282.trans (congrArg some (by kernel_rfl))⟩
 f14:=⟨Tryz.f298.name,by decide,Tryz.func298.trans (congrArg some (by kernel_rfl))⟩
 f15:=Tryz.func109.trans (congrArg some (by kernel_rfl))
 f20:=⟨Tryz.f312.name,by decide,Tryz.func312.trans (congrArg some (by kernel_rfl))⟩
 f21:=⟨Tryz.f313.name,by decide,Tryz.func313.trans (congrArg some (by kernel_rfl))⟩
 f22:=⟨Tryz.f314.name,by decide,Tryz.func314.trans (congrArg some (by kernel_rfl))⟩
 f23:=⟨Tryz.f315.name,by decide,Tryz.func315.trans (congrArg some (by kernel_rfl))⟩
 f24:=⟨Tryz.f316.name,by decide,Tryz.func316.trans (congrArg some (by kernel_rfl))⟩
 f25:=⟨Tryz.f317.name,by decide,Tryz.func317.trans (congrArg some (by kernel_rfl))⟩
 f26:=⟨Tryz.f318.name,by decide,Tryz.func318.trans (congrArg some (by kernel_rfl))⟩
 f27:=⟨Tryz.f319.name,by decide,Tryz.func319.trans (congrArg some (by kernel_rfl))⟩
 f28:=Tryz.func166.trans (congrArg some (by kernel_rfl))
 f29:=Tryz.func167.trans (congrArg some (by kernel_rfl))
 f46:=⟨Tryz.f331.name,by decide,Tryz.func331.trans (congrArg some (by kernel_rfl))⟩
 f47:=Tryz.func247.trans (congrArg some (by kernel_rfl))
 f48:=Tryz.func248.trans (congrArg some (by kernel_rfl))
 f49:=⟨Tryz.f332.name,by decide,Tryz.func332.trans (congrArg some (by kernel_rfl))⟩
 f50:=⟨Tryz.f333.name,by decide,Tryz.func333.trans (congrArg some (by kernel_rfl))⟩
 f57:=⟨Tryz.f338.name,by decide,Tryz.func338.trans (congrArg some (by kernel_rfl))⟩
 t0:=Tryz.underlying0
 a0:=Tryz.isAgg0
 z0:=Tryz.sizeOf0
 v0:=Tryz.zeroValue0
 t3:=Tryz.underlying3
 a3:=Tryz.isAgg3
 z3:=Tryz.sizeOf3
 v3:=Tryz.zeroValue3
 t4:=Tryz.underlying4
 a4:=Tryz.isAgg4
 z4:=Tryz.sizeOf4
 v4:=Tryz.zeroValue4
 t5:=Tryz.underlying5
 a5:=Tryz.isAgg5
 z5:=Tryz.sizeOf5
 v5:=Tryz.zeroValue5
 t9:=Tryz.underlying9
 a9:=Tryz.isAgg9
 z9:=Tryz.sizeOf9
 v9:=Tryz.zeroValue9
 t22:=Tryz.underlying72
 a22:=Tryz.isAgg72
 z22:=Tryz.sizeOf72
 v22:=Tryz.zeroValue72
 t25:=Tryz.underlying313
 a25:=Tryz.isAgg313
 z25:=Tryz.sizeOf313
 v25:=Tryz.zeroValue313
 t39:=Tryz.underlying100
 a39:=Tryz.isAgg100
 z39:=Tryz.sizeOf100
 v39:=Tryz.zeroValue100
 t45:=Tryz.underlying228
 a45:=Tryz.isAgg228
 z45:=Tryz.sizeOf228
 v45:=Tryz.zeroValue228
 t46:=Tryz.underlying229
 a46:=Tryz.isAgg229
 z46:=Tryz.sizeOf229
 v46:=Tryz.zeroValue229
 t50:=Tryz.underlying233
 a50:=Tryz.isAgg233
 z50:=Tryz.sizeOf233
 v50:=Tryz.zeroValue233
 t53:=Tryz.underlying236
 a53:=Tryz.isAgg236
 z53:=Tryz.sizeOf236
 v53:=Tryz.zeroValue236
 t55:=Tryz.underlying238
 a55:=Tryz.isAgg238
 z55:=Tryz.sizeOf238
 v55:=Tryz.zeroValue238
 t66:=Tryz.underlying294
 a66:=Tryz.isAgg294
 z66:=Tryz.sizeOf294
 v66:=Tryz.zeroValue294
 t70:=Tryz.underlying298
 a70:=Tryz.isAgg298
 z70:=Tryz.sizeOf298
 v70:=Tryz.zeroValue298
 t76:=Tryz.underlying318
 a76:=Tryz.isAgg318
 z76:=Tryz.sizeOf318
 v76:=Tryz.zeroValue318
 t77:=Tryz.underlying319
 a77:=Tryz.isAgg319
 z77:=Tryz.sizeOf319
 v77:=Tryz.zeroValue319 }
end Go.Proofs
namespace Go.Proofs.YtommnllbflbdmaaGreatDoor
open Go.V
attribute [local irreducible] G GO GP GPW GPK Ev Ef EfR Ent CB GB Enters
def cmpI(a b:Int):Int:=if a<b then -1 else if b<a then 1 else 0
theorem jL{φ ψ:Prop}(k:ψ)(h:Hid ψ→φ:=by intro k;first|((with_reducible apply GO.d7);refine GO.e7 uW Tryz.func110 rfl rfl rfl rfl (by simp) ae (Hid.out k))|((with_reducible apply GPW.d7);refine GPW.e7 uW Tryz.func110 rfl rfl rfl rfl (by simp) ae (Hid.out k))|((with_reducible apply GO.d7);refine GO.d8 rfl uW Tryz.func110 rfl rfl rfl rfl (by simp) ae (Hid.out k))|((with_reducible apply GPW.d7);refine GPW.d8 rfl uW Tryz.func110 rfl rfl rfl rfl (by simp) ae (Hid.out k))|((with_reducible apply KX.f7);first|refine KX.in0 (.inl rfl) (Hid.out k)|refine KX.in0 (.inr rfl) (Hid.out k)|refine KX.in1 (.inl rfl) rfl (Hid.out k)|refine KX.in2 (.inl rfl) rfl rfl (Hid.out k)|refine KX.in3 (.inl rfl) rfl rfl rfl (Hid.out k)|refine KX.inC (.inl rfl) rfl (by rfl) (Hid.out k)|refine KX.e9 (.inl rfl) rfl (by rfl) rfl (Hid.out k))):φ:=h ⟨k⟩
theorem jP{L:LH}(a b:Int):Tri ah 59 #[ab a,ab b] L (fun v L'=>v=ab (cmpI a b)∧L' = L):=by
 refine Tri.body (args:=[ab a,ab b]) 20 en59 Tryz.func59 rfl rfl rfl (by simp) ?_;unfold cmpI;by_cases h1:a<b
 ·rw[if_pos h1];repeat first|refine aa ?_|intro _|refine jL ?_
  exact KX.d7 ai (Ent.refl _) ⟨rfl,rfl⟩
 rw[if_neg h1];by_cases h2:b<a
 ·rw[if_pos h2];repeat first|refine aa ?_|intro _|refine jL ?_
  exact KX.d7 ai (Ent.refl _) ⟨rfl,rfl⟩
 rw[if_neg h2];repeat first|refine aa ?_|intro _|refine jL ?_
 exact KX.d7 ai (Ent.refl _) ⟨rfl,rfl⟩
theorem jK{φ ψ:Prop}(k:ψ)(h:Hid ψ→φ:=by intro k;first|((with_reducible apply GO.d7);refine GO.e7 uV Tryz.func278 rfl rfl rfl rfl (by simp) ae (Hid.out k))|((with_reducible apply GPW.d7);refine GPW.e7 uV Tryz.func278 rfl rfl rfl rfl (by simp) ae (Hid.out k))|((with_reducible apply GO.d7);refine GO.d8 rfl uV Tryz.func278 rfl rfl rfl rfl (by simp) ae (Hid.out k))|((with_reducible apply GPW.d7);refine GPW.d8 rfl uV Tryz.func278 rfl rfl rfl rfl (by simp) ae (Hid.out k))|((with_reducible apply KX.f7);first|refine KX.in0 (.inl rfl) (Hid.out k)|refine KX.in0 (.inr rfl) (Hid.out k)|refine KX.in1 (.inl rfl) rfl (Hid.out k)|refine KX.in2 (.inl rfl) rfl rfl (Hid.out k)|refine KX.in3 (.inl rfl) rfl rfl rfl (Hid.out k)|refine KX.inC (.inl rfl) rfl (by rfl) (Hid.out k)|refine KX.e9 (.inl rfl) rfl (by rfl) rfl (Hid.out k))):φ:=h ⟨k⟩
theorem uj{L:LH}(a b:Int):Tri ah 245 #[.int .u64 a,.int .u64 b] L (fun v L'=>v=ab (cmpI a b)∧L' = L):=by
 refine Tri.body (args:=[.int .u64 a,.int .u64 b]) 20 HS Tryz.func245 rfl rfl rfl (by simp) ?_;unfold cmpI;by_cases h1:a<b
 ·rw[if_pos h1];repeat first|refine aa ?_|intro _|refine jK ?_
  exact KX.d7 ai (Ent.refl _) ⟨rfl,rfl⟩
 rw[if_neg h1];by_cases h2:b<a
 ·rw[if_pos h2];repeat first|refine aa ?_|intro _|refine jK ?_
  exact KX.d7 ai (Ent.refl _) ⟨rfl,rfl⟩
 rw[if_neg h2];repeat first|refine aa ?_|intro _|refine jK ?_
 exact KX.d7 ai (Ent.refl _) ⟨rfl,rfl⟩
def orI(a b:Int):Int:=if a=0 then b else a
theorem nL{L:LH}(ad:OA)(c:Nat)(a b:Int)[Rds L ad Int (encZ .i64) 1 [a,b]]:Tri ah 58 #[.slice ad 2 c] L (fun v L'=>v=ab (orI a b)∧L' = L):=by
 have hl:([a,b]:List Int).length=2:=rfl;have h0:([a,b]:List Int)[(0:Int).toNat]! = a:=rfl;have h1:([a,b]:List Int)[((0:Int)+1).toNat]! = b:=rfl;unfold orI;refine Tri.body (args:=[.slice ad 2 c]) 18 en58 Tryz.func58 rfl rfl rfl (by simp) ?_;repeat first|refine aa ?_|intro
 refine G.e8 3 (GR.step ?_);repeat first|refine aa ?_|intro
 rw[h0];by_cases ha:a=0
 case neg =>
  rw[if_neg ha];repeat first|refine aa ?_|intro
  exact KX.d7 ai (Ent.refl _) ⟨rfl,rfl⟩
 rw[if_pos ha];repeat first|refine aa ?_|intro
 refine GR.step ?_;repeat first|refine aa ?_|intro
 rw[h1];by_cases hb:b=0
 case neg =>
  repeat first|refine aa ?_|intro
  exact KX.d7 ai (Ent.refl _) ⟨rfl,rfl⟩
 repeat first|refine aa ?_|intro
 refine GR.step ?_;repeat first|refine aa ?_|intro
 exact KX.d7 ai (Ent.refl _) ⟨by rw[hb];rfl,rfl⟩
def jH(n:Int):Prop:=0≤n∧n≤1099511627776
instance:DecidablePred jH:=fun n=>by unfold jH;infer_instance
theorem lx{L:LH}(n:Int):Tri ah 321 #[ab n] L (fun v L'=>v=.bool (dB (jH n))∧L' = L):=by
 refine Tri.body (args:=[ab n]) 9 He Tryz.func321 rfl rfl rfl (by simp) ?_;by_cases h1:0≤n
 ·by_cases h2:n≤1099511627776
  ·repeat first|refine aa ?_|intro
   exact KX.d7 ai (Ent.refl _) ⟨by rw[aU h2,aU (show jH n from⟨h1,h2⟩)];rfl,rfl⟩
  ·repeat first|refine aa ?_|intro
   exact KX.d7 ai (Ent.refl _) ⟨by rw[aF h2,aF (fun h:jH n=>h2 h.2)];rfl,rfl⟩
 ·repeat first|refine aa ?_|intro
  exact KX.d7 ai (Ent.refl _) ⟨by rw[aF (fun h:jH n=>h1 h.1)];rfl,rfl⟩
def lp(n:Int):Prop:=0≤n∧n≤1152921504606846976
instance:DecidablePred lp:=fun n=>by unfold lp;infer_instance
theorem oU{L:LH}(n:Int):Tri ah 334 #[ab n] L (fun v L'=>v=.bool (dB (lp n))∧L' = L):=by
 refine Tri.body (args:=[ab n]) 9 Ha Tryz.func334 rfl rfl rfl (by simp) ?_;by_cases h1:0≤n
 ·by_cases h2:n≤1152921504606846976
  ·repeat first|refine aa ?_|intro
   exact KX.d7 ai (Ent.refl _) ⟨by rw[aU h2,aU (show lp n from⟨h1,h2⟩)];rfl,rfl⟩
  ·repeat first|refine aa ?_|intro
   exact KX.d7 ai (Ent.refl _) ⟨by rw[aF h2,aF (fun h:lp n=>h2 h.2)];rfl,rfl⟩
 ·repeat first|refine aa ?_|intro
  exact KX.d7 ai (Ent.refl _) ⟨by rw[aF (fun h:lp n=>h1 h.1)];rfl,rfl⟩
theorem vv{L:LH}(total num den:Nat)(h1:total≤1099511627776)(h2:num≤1152921504606846976)(h3:den≤1152921504606846976)(h0:0<den)(hq:total*num / den≤1099511627776) :
  Tri ah 322 #[ab (total:Int),ab (num:Int),ab (den:Int)] L (fun v L'=>v=.tuple #[.int .u64 ((total*num / den:Nat):Int),.int .u64 ((total*num % den:Nat):Int),ab 0]∧L' = L):=by
 have e:=fb (total*num) 18446744073709551616;rw[ee] at e
 have hhi:total*num / 18446744073709551616<den:=by
  rw[fh ae];have h4:=Nat.lt_div_mul_add (a:=total*num) h0;have h5:total*num / den*den≤1099511627776*den:=dz _ hq;omega
 have hlo:=dI (total*num) (show 0<18446744073709551616 by decide);refine Tri.body (args:=[ab (total:Int),ab (num:Int),ab (den:Int)]) 52 Hc Tryz.func322 rfl rfl rfl (by simp) ?_;repeat first|refine aa ?_|intro
 refine GO.ef (Ef.d7 (lx (total:Int)) rfl) ae ?_;rintro _ L ⟨rfl,rfl⟩;rw[aU (show jH (total:Int) from⟨ac,ac⟩)];repeat first|refine aa ?_|intro
 refine GO.ef (Ef.d7 (oU (num:Int)) rfl) ae ?_;rintro _ L ⟨rfl,rfl⟩;rw[aU (show lp (num:Int) from⟨ac,ac⟩)];repeat first|refine aa ?_|intro
 refine GO.ef (Ef.d7 (oU (den:Int)) rfl) ae ?_;rintro _ L ⟨rfl,rfl⟩;rw[aU (show lp (den:Int) from⟨ac,ac⟩)];repeat first|refine aa ?_|intro
 refine GO.ef (Ef.d7 (sa total num ac ac) rfl) ae ?_;rintro _ L ⟨rfl,rfl⟩;repeat first|refine aa ?_|intro
 refine GO.ef (Ef.d7 (sx (total*num / 18446744073709551616) (total*num % 18446744073709551616) den hhi hlo ac) rfl) ae ?_;rintro _ L ⟨rfl,rfl⟩;rw[e];repeat first|refine aa ?_|intro
 exact KX.d7 ai (Ent.refl _) ⟨rfl,rfl⟩
def fM(n i:Nat)(f:Nat→Int):List Int:=(List.range n).map (fun k=>if k<i then f k else 0)
theorem jy(n i:Nat)(f:Nat→Int):(fM n i f).length=n:=by simp[fM]
theorem jE(n:Nat)(f:Nat→Int):fM n 0 f=List.replicate n 0:=by
 apply dv
 ·simp[fM]
 ·intro i h1 h2;simp[fM]
theorem kn{n i:Nat}(f:Nat→Int)(h:i<n):(fM n i f).set i (f i)=fM n (i+1) f:=by
 apply dv
 ·simp[fM]
 ·intro j h1 h2;rw[fC];simp only[fM,eU,List.getElem_range];by_cases hj:i=j
  ·subst hj;simp
  ·rw[if_neg hj];by_cases h3:j<i
   ·rw[if_pos h3,if_pos ac]
   ·rw[if_neg h3,if_neg ac]
theorem ko(n:Nat)(f:Nat→Int):fM n n f=(List.range n).map f:=by
 apply cU;intro k hk;rw[if_pos (List.mem_range.1 hk)]
def shCf(rs:List Int)(i j:Nat):Int:=orI (cmpI rs[j]! rs[i]!) (cmpI i j)
theorem FB(rs:List Int)(i j:Nat):shCf rs i j<0↔rs[j]! < rs[i]!∨(rs[j]! = rs[i]!∧i<j):=by
 unfold shCf orI cmpI;generalize rs[j]! = x;generalize rs[i]! = y;by_cases h1:x<y
 ·rw[if_pos h1,if_neg ae];omega
 ·rw[if_neg h1];by_cases h2:y<x
  ·rw[if_pos h2,if_neg ae];omega
  ·rw[if_neg h2,if_pos rfl];split
   ·omega
   ·split<;>omega
abbrev xH:List Stp:=[.ev 0,.ev 1,.ev 2,.ev 3,.ev 4,.ev 5,.ev 6,.ev 7,.ev 9,.ev 10,.ef 8,.ef 11,.ef 12,.ef 13,.ev 14]
theorem gB{φ ψ:Prop}(k:ψ)(h:Hid ψ→φ:=by intro k;(with_reducible apply G.d8);first|refine G.d7 (N:=20) (id:=1) xH mixed ap (Hid.out k)):φ:=h ⟨k⟩
theorem xk(b:Nat)(ad:OA)(c:Nat)(rs:List Int)(i j:Nat)(hi:i<rs.length)(hj:j<rs.length)(hl:rs.length≤1000000) :
  Tri ah 324 #[ab (i:Int),ab (j:Int),au b] [isl pQ 1 (some ⟨b,0,none⟩) [⟨ad,rs.length,c⟩],isl (encZ .u64) 1 ad rs] (fun u _=>u=ab (shCf rs i j)):=by
 have hii:(i:Int).toNat=i:=ac;have hjj:(j:Int).toNat=j:=ac;have hl1:([⟨ad,rs.length,c⟩]:List SlV).length=1:=rfl;refine Tri.body (args:=[ab (i:Int),ab (j:Int),au b]) 20 Fa Tryz.func324 rfl rfl rfl (by simp) ?_;repeat first|refine aa ?_|intro _|refine gB ?_
 refine GPW.evL (Ev.r6 (enc:=pQ) (xs:=[⟨ad,rs.length,c⟩]) (j:=0) (o:=0) rfl rfl (by simp) ae (show _=some (.slice ad rs.length c) from rfl)) ae ?_;repeat first|refine aa ?_|intro _|refine gB ?_
 refine GPW.evL (Ev.r6 (enc:=pQ) (xs:=[⟨ad,rs.length,c⟩]) (j:=0) (o:=0) rfl rfl (by simp) ae (show _=some (.slice ad rs.length c) from rfl)) ae ?_;repeat first|refine aa ?_|intro _|refine gB ?_
 rw[hii,hjj];refine GPW.ef (Ef.d7 (uj rs[j]! rs[i]!) rfl) ae ?_;rintro _ _⟨rfl,rfl⟩;repeat first|refine aa ?_|intro _|refine gB ?_
 refine GPW.ef (Ef.d7 (jP (i:Int) (j:Int)) rfl) ae ?_;rintro _ _⟨rfl,rfl⟩;repeat first|refine aa ?_|intro _|refine gB ?_
 rename_i b2;refine GPW.ent (Ent.e8 (enc:=encZ .i64) (sz:=1) (xs:=[cmpI rs[j]! rs[i]!,cmpI (i:Int) (j:Int)]) rfl rfl (fun _ _=>rfl) (by simp)) ?_;refine GPW.ef (Ef.d7 (nL (some ⟨b2,0,none⟩) 2 (cmpI rs[j]! rs[i]!) (cmpI (i:Int) (j:Int))) rfl) ae ?_;rintro _ _⟨rfl,rfl⟩;repeat first|refine aa ?_|intro _|refine gB ?_
 exact KX.d7 ai (Ent.refl _) rfl
