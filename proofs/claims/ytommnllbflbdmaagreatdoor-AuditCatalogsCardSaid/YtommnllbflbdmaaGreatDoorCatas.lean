/- Lemmas. -/
import Derived.Shelf.SlGeneric
import Derived.Shelf.SlLaysF
import Derived.Shelf.SlLaysF0
import Derived.Ground.SlsfProg
import Derived.Test.YtommnllbflbdmaaGreatDoorCatar
set_option linter.all false
set_option maxHeartbeats 1000000
namespace Go.Proofs
open Go.Shelf
def Tryz.sortI_ren:Go.Shelf.Ren:=⟨fun|6=>323|15=>109|14=>335|28=>166|29=>167|20=>339|21=>340|22=>341|23=>342|24=>343|25=>344|26=>345|27=>346|46=>347|47=>247|48=>248|49=>348|50=>349|57=>350|n=>n,fun|22=>22|24=>3|25=>23|3=>3|39=>100|0=>0|53=>236|55=>238|4=>4|46=>229|45=>228|50=>233|5=>5|9=>9|66=>294|70=>298|76=>318|77=>319|n=>n,fun|n=>n⟩
def Tryz.sortI:Go.Proofs.SlLaysF.n6 Tryz.prog Tryz.sortI_ren:={
 mixed:=by kernel_rfl
 f6:=⟨Tryz.f323.name,by decide,Tryz.func323.trans (congrArg some (by kernel_rfl))⟩
 f14:=⟨Tryz.f335.name,by decide,Tryz.func335.trans (congrArg some (by kernel_rfl))⟩
 f15:=Tryz.func109.trans (congrArg some (by kernel_rfl))
 f20:=⟨Tryz.f339.name,by decide,Tryz.func339.trans (congrArg some (by kernel_rfl))⟩
 f21:=⟨Tryz.f340.name,by decide,Tryz.func340.trans (congrArg some (by kernel_rfl))⟩
 f22:=⟨Tryz.f341.name,by decide,Tryz.func341.trans (congrArg some (by kernel_rfl))⟩
 f23:=⟨Tryz.f342.name,by decide,Tryz.func342.trans (congrArg some (by kernel_rfl))⟩
 f24:=⟨Tryz.f343.name,by decide,Tryz.func343.trans (congrArg some (by kernel_rfl))⟩
 f25:=⟨Tryz.f344.name,by decide,Tryz.func344.trans (congrArg some (by kernel_rfl))⟩
 f26:=⟨Tryz.f345.name,by decide,Tryz.func345.trans (congrArg some (by kernel_rfl))⟩
 f27:=⟨Tryz.f346.name,by decide,Tryz.func346.trans (congrArg some (by kernel_rfl))⟩
 f28:=Tryz.func166.trans (congrArg some (by kernel_rfl))
 f29:=Tryz.func167.trans (congrArg some (by kernel_rfl))
 f46:=⟨Tryz.f347.name,by decide,Tryz.func347.trans (congrArg some (by kernel_rfl))⟩
 f47:=Tryz.func247.trans (congrArg some (by kernel_rfl))
 f48:=Tryz.func248.trans (congrArg some (by kernel_rfl))
 f49:=⟨Tryz.f348.name,by decide,Tryz.func348.trans (congrArg some (by kernel_rfl))⟩
 f50:=⟨Tryz.f349.name,by decide,Tryz.func349.trans (congrArg some (by kernel_rfl))⟩
 f57:=⟨Tryz.f350.name,by decide,Tryz.func350.trans (congrArg some (by kernel_rfl))⟩
 t0:=Tryz.underlying0
 a0:=Tryz.isAgg0
 z0:=Tryz.sizeOf0
 v0:=Tryz.zeroValue0
 t3:=Tryz.underlying3
 a3:=Tryz.isAgg3
 z3:=Tryz.sizeOf3
 v3:=Tryz.zeroValue3
 t4:=Tryz.underlying4
 a4:=Tryz.isAgg4
 z4:=Tryz.sizeOf4
 v4:=Tryz.zeroValue4
 t5:=Tryz.underlying5
 a5:=Tryz.isAgg5
 z5:=Tryz.sizeOf5
 v5:=Tryz.zeroValue5
 t9:=Tryz.underlying9
 a9:=Tryz.isAgg9
 z9:=Tryz.sizeOf9
 v9:=Tryz.zeroValue9
 t22:=Tryz.underlying22
 a22:=Tryz.isAgg22
 z22:=Tryz.sizeOf22
 v22:=Tryz.zeroValue22
 a24:=Tryz.isAgg3
 z24:=Tryz.sizeOf3
 t25:=Tryz.underlying23
 a25:=Tryz.isAgg23
 z25:=Tryz.sizeOf23
 v25:=Tryz.zeroValue23
 t39:=Tryz.underlying100
 a39:=Tryz.isAgg100
 z39:=Tryz.sizeOf100
 v39:=Tryz.zeroValue100
 t45:=Tryz.underlying228
 a45:=Tryz.isAgg228
 z45:=Tryz.sizeOf228
 v45:=Tryz.zeroValue228
 t46:=Tryz.underlying229
 a46:=Tryz.isAgg229
 z46:=Tryz.sizeOf229
 v46:=Tryz.zeroValue229
 t50:=Tryz.underlying233
 a50:=Tryz.isAgg233
 z50:=Tryz.sizeOf233
 v50:=Tryz.zeroValue233
 t53:=Tryz.underlying236
 a53:=Tryz.isAgg236
 z53:=Tryz.sizeOf236
 v53:=Tryz.zeroValue236
 t55:=Tryz.underlying238
 a55:=Tryz.isAgg238
 z55:=Tryz.sizeOf238
 v55:=Tryz.zeroValue238
 t66:=Tryz.underlying294
 a66:=Tryz.isAgg294
 z66:=Tryz.sizeOf294
 v66:=Tryz.zeroValue294
 t70:=Tryz.underlying298
 a70:=Tryz.isAgg298
 z70:=Tryz.sizeOf298
 v70:=Tryz.zeroValue298
 t76:=Tryz.underlying318
 a76:=Tryz.isAgg318
 z76:=Tryz.sizeOf318
 v76:=Tryz.zeroValue318
 t77:=Tryz.underlying319
 a77:=Tryz.isAgg319
 z77:=Tryz.sizeOf319
 v77:=Tryz.zeroValue319 }
def Tryz.sortH_ren:Go.Shelf.Ren:=⟨fun|6=>56|15=>109|14=>108|28=>166|29=>167|20=>158|21=>159|22=>160|23=>161|24=>162|25=>163|26=>164|27=>165|46=>246|47=>247|48=>248|49=>249|50=>250|57=>279|n=>n,fun|22=>53|24=>112|25=>120|3=>3|39=>100|0=>0|53=>236|55=>238|4=>4|46=>229|45=>228|50=>233|5=>5|9=>9|66=>294|70=>298|76=>318|77=>319|n=>n,fun|n=>n⟩
def Tryz.sortH:Go.Proofs.SlLaysF0.n6 Tryz.prog Tryz.sortH_ren:={
 mixed:=by kernel_rfl
 f6:=⟨Tryz.f56.name,by decide,Tryz.func56.trans (congrArg some (by kernel_rfl))⟩
 f14:=⟨Tryz.f108.name,by decide,Tryz.func108.trans (congrArg some (by kernel_rfl))⟩
 f15:=Tryz.func109.trans (congrArg some (by kernel_rfl))
 f20:=⟨Tryz.f158.name,by decide,Tryz.func158.trans (congrArg some (by kernel_rfl))⟩
 f21:=⟨Tryz.f159.name,by decide,Tryz.func159.trans (congrArg some (by kernel_rfl))⟩
 f22:=⟨Tryz.f160.name,by decide,Tryz.func160.trans (congrArg some (by kernel_rfl))⟩
 f23:=⟨Tryz.f161.name,by decide,Tryz.func161.trans (congrArg some (by kernel_rfl))⟩
 f24:=⟨Tryz.f162.name,by decide,Tryz.func162.trans (congrArg some (by kernel_rfl))⟩
 f25:=⟨Tryz.f163.name,by decide,Tryz.func163.trans (congrArg some (by kernel_rfl))⟩
 f26:=⟨Tryz.f164.name,by decide,Tryz.func164.trans (congrArg some (by kernel_rfl))⟩
 f27:=⟨Tryz.f165.name,by decide,Tryz.func165.trans (congrArg some (by kernel_rfl))⟩
 f28:=Tryz.func166.trans (congrArg some (by kernel_rfl))
 f29:=Tryz.func167.trans (congrArg some (by kernel_rfl))
 f46:=⟨Tryz.f246.name,by decide,Tryz.func246.trans (congrArg some (by kernel_rfl))⟩
 f47:=Tryz.func247.trans (congrArg some (by kernel_rfl))
 f48:=Tryz.func248.trans (congrArg some (by kernel_rfl))
 f49:=⟨Tryz.f249.name,by decide,Tryz.func249.trans (congrArg some (by kernel_rfl))⟩
 f50:=⟨Tryz.f250.name,by decide,Tryz.func250.trans (congrArg some (by kernel_rfl))⟩
 f57:=⟨Tryz.f279.name,by decide,Tryz.func279.trans (congrArg some (by kernel_rfl))⟩
 t0:=Tryz.underlying0
 a0:=Tryz.isAgg0
 z0:=Tryz.sizeOf0
 v0:=Tryz.zeroValue0
 t3:=Tryz.underlying3
 a3:=Tryz.isAgg3
 z3:=Tryz.sizeOf3
 v3:=Tryz.zeroValue3
 t4:=Tryz.underlying4
 a4:=Tryz.isAgg4
 z4:=Tryz.sizeOf4
 v4:=Tryz.zeroValue4
 t5:=Tryz.underlying5
 a5:=Tryz.isAgg5
 z5:=Tryz.sizeOf5
 v5:=Tryz.zeroValue5
 t9:=Tryz.underlying9
 a9:=Tryz.isAgg9
 z9:=Tryz.sizeOf9
 v9:=Tryz.zeroValue9
 t22:=Tryz.underlying53
 a22:=Tryz.isAgg53
 z22:=Tryz.sizeOf53
 v22:=Tryz.zeroValue53
 t25:=Tryz.underlying120
 a25:=Tryz.isAgg120
 z25:=Tryz.sizeOf120
 v25:=Tryz.zeroValue120
 t39:=Tryz.underlying100
 a39:=Tryz.isAgg100
 z39:=Tryz.sizeOf100
 v39:=Tryz.zeroValue100
 t45:=Tryz.underlying228
 a45:=Tryz.isAgg228
 z45:=Tryz.sizeOf228
 v45:=Tryz.zeroValue228
 t46:=Tryz.underlying229
 a46:=Tryz.isAgg229
 z46:=Tryz.sizeOf229
 v46:=Tryz.zeroValue229
 t50:=Tryz.underlying233
 a50:=Tryz.isAgg233
 z50:=Tryz.sizeOf233
 v50:=Tryz.zeroValue233
 t53:=Tryz.underlying236
 a53:=Tryz.isAgg236
 z53:=Tryz.sizeOf236
 v53:=Tryz.zeroValue236
 t55:=Tryz.underlying238
 a55:=Tryz.isAgg238
 z55:=Tryz.sizeOf238
 v55:=Tryz.zeroValue238
 t66:=Tryz.underlying294
 a66:=Tryz.isAgg294
 z66:=Tryz.sizeOf294
 v66:=Tryz.zeroValue294
 t70:=Tryz.underlying298
 a70:=Tryz.isAgg298
 z70:=Tryz.sizeOf298
 v70:=Tryz.zeroValue298
 t76:=Tryz.underlying318
 a76:=Tryz.isAgg318
 z76:=Tryz.sizeOf318
 v76:=Tryz.zeroValue318
 t77:=Tryz.underlying319
 a77:=Tryz.isAgg319
 z77:=Tryz.sizeOf319
 v77:=Tryz.zeroValue319 }
def Tryz.sortL_ren:Go.Shelf.Ren:=⟨fun|6=>282|15=>109|14=>298|28=>166|29=>167|20=>312|21=>313|22=>314|23=>315|24=>316|25=>317|26=>318|27=>319|46=>331|47=>247|48=>248|49=>332|50=>333|57=>338|n=>n,fun|22=>72|24=>91|25=>313|3=>3|39=>100|0=>0|53=>236|55=>238|4=>4|46=>229|45=>228|50=>233|5=>5|9=>9|66=>294|70=>298|76=>318|77=>319|n=>n,fun|n=>n⟩
def Tryz.sortL:Go.Proofs.SlLaysF0.n6 Tryz.prog Tryz.sortL_ren:={
 mixed:=by kernel_rfl
 f6:=⟨Tryz.f282.name,by decide,Tryz.func282.trans (congrArg some (by kernel_rfl))⟩
 f14:=⟨Tryz.f298.name,by decide,Tryz.func298.trans (congrArg some (by kernel_rfl))⟩
 f15:=Tryz.func109.trans (congrArg some (by kernel_rfl))
 f20:=⟨Tryz.f312.name,by decide,Tryz.func312.trans (congrArg some (by kernel_rfl))⟩
 f21:=⟨Tryz.f313.name,by decide,Tryz.func313.trans (congrArg some (by kernel_rfl))⟩
 f22:=⟨Tryz.f314.name,by decide,Tryz.func314.trans (congrArg some (by kernel_rfl))⟩
 f23:=⟨Tryz.f315.name,by decide,Tryz.func315.trans (congrArg some (by kernel_rfl))⟩
 f24:=⟨Tryz.f316.name,by decide,Tryz.func316.trans (congrArg some (by kernel_rfl))⟩
 f25:=⟨Tryz.f317.name,by decide,Tryz.func317.trans (congrArg some (by kernel_rfl))⟩
 f26:=⟨Tryz.f318.name,by decide,Tryz.func318.trans (congrArg some (by kernel_rfl))⟩
 f27:=⟨Tryz.f319.name,by decide,Tryz.func319.trans (congrArg some (by kernel_rfl))⟩
 f28:=Tryz.func166.trans (congrArg some (by kernel_rfl))
 f29:=Tryz.func167.trans (congrArg some (by kernel_rfl))
 f46:=⟨Tryz.f331.name,by decide,Tryz.func331.trans (congrArg some (by kernel_rfl))⟩
 f47:=Tryz.func247.trans (congrArg some (by kernel_rfl))
 f48:=Tryz.func248.trans (congrArg some (by kernel_rfl))
 f49:=⟨Tryz.f332.name,by decide,Tryz.func332.trans (congrArg some (by kernel_rfl))⟩
 f50:=⟨Tryz.f333.name,by decide,Tryz.func333.trans (congrArg some (by kernel_rfl))⟩
 f57:=⟨Tryz.f338.name,by decide,Tryz.func338.trans (congrArg some (by kernel_rfl))⟩
 t0:=Tryz.underlying0
 a0:=Tryz.isAgg0
 z0:=Tryz.sizeOf0
 v0:=Tryz.zeroValue0
 t3:=Tryz.underlying3
 a3:=Tryz.isAgg3
 z3:=Tryz.sizeOf3
 v3:=Tryz.zeroValue3
 t4:=Tryz.underlying4
 a4:=Tryz.isAgg4
 z4:=Tryz.sizeOf4
 v4:=Tryz.zeroValue4
 t5:=Tryz.underlying5
 a5:=Tryz.isAgg5
 z5:=Tryz.sizeOf5
 v5:=Tryz.zeroValue5
 t9:=Tryz.underlying9
 a9:=Tryz.isAgg9
 z9:=Tryz.sizeOf9
 v9:=Tryz.zeroValue9
 t22:=Tryz.underlying72
 a22:=Tryz.isAgg72
 z22:=Tryz.sizeOf72
 v22:=Tryz.zeroValue72
 t25:=Tryz.underlying313
 a25:=Tryz.isAgg313
 z25:=Tryz.sizeOf313
 v25:=Tryz.zeroValue313
 t39:=Tryz.underlying100
 a39:=Tryz.isAgg100
 z39:=Tryz.sizeOf100
 v39:=Tryz.zeroValue100
 t45:=Tryz.underlying228
 a45:=Tryz.isAgg228
 z45:=Tryz.sizeOf228
 v45:=Tryz.zeroValue228
 t46:=Tryz.underlying229
 a46:=Tryz.isAgg229
 z46:=Tryz.sizeOf229
 v46:=Tryz.zeroValue229
 t50:=Tryz.underlying233
 a50:=Tryz.isAgg233
 z50:=Tryz.sizeOf233
 v50:=Tryz.zeroValue233
 t53:=Tryz.underlying236
 a53:=Tryz.isAgg236
 z53:=Tryz.sizeOf236
 v53:=Tryz.zeroValue236
 t55:=Tryz.underlying238
 a55:=Tryz.isAgg238
 z55:=Tryz.sizeOf238
 v55:=Tryz.zeroValue238
 t66:=Tryz.underlying294
 a66:=Tryz.isAgg294
 z66:=Tryz.sizeOf294
 v66:=Tryz.zeroValue294
 t70:=Tryz.underlying298
 a70:=Tryz.isAgg298
 z70:=Tryz.sizeOf298
 v70:=Tryz.zeroValue298
 t76:=Tryz.underlying318
 a76:=Tryz.isAgg318
 z76:=Tryz.sizeOf318
 v76:=Tryz.zeroValue318
 t77:=Tryz.underlying319
 a77:=Tryz.isAgg319
 z77:=Tryz.sizeOf319
 v77:=Tryz.zeroValue319 }
end Go.Proofs
namespace Go.Proofs.YtommnllbflbdmaaGreatDoor
open Go.V
attribute [local irreducible] G GO GP GPW GPK Ev Ef EfR Ent CB GB Enters
def cmpI(a b:Int):Int:=if a<b then -1 else if b<a then 1 else 0
def jW{φ ψ:Prop}(k:ψ)(h:Hid ψ→φ:=by intro k;first|refine GO.ci (f:=110) (Hid.out k)|refine GPW.ci (f:=110) (Hid.out k)|refine GO.cf (f:=110) rfl (Hid.out k)|refine GPW.cf (f:=110) rfl (Hid.out k)|refine KX.inA (Hid.out k)):φ:=h ⟨k⟩
def jm{L:LH}(a b:Int):Tri ai 59 #[ac a,ac b] L (rtQ (ac (cmpI a b)) L):=by
 refine Tri.bd ?_;unfold cmpI;by_cases h1:a<b
 ·rw[if_pos h1];repeat first|refine aa ?_|intro _|refine jW ?_
  exact KX.en ⟨rfl,rfl⟩
 rw[if_neg h1];by_cases h2:b<a
 ·rw[if_pos h2];repeat first|refine aa ?_|intro _|refine jW ?_
  exact KX.en ⟨rfl,rfl⟩
 rw[if_neg h2];repeat first|refine aa ?_|intro _|refine jW ?_
 exact KX.en ⟨rfl,rfl⟩
def jV{φ ψ:Prop}(k:ψ)(h:Hid ψ→φ:=by intro k;first|refine GO.ci (f:=278) (Hid.out k)|refine GPW.ci (f:=278) (Hid.out k)|refine GO.cf (f:=278) rfl (Hid.out k)|refine GPW.cf (f:=278) rfl (Hid.out k)|refine KX.inA (Hid.out k)):φ:=h ⟨k⟩
def uO{L:LH}(a b:Int):Tri ai 245 #[.int .u64 a,.int .u64 b] L (rtQ (ac (cmpI a b)) L):=by
 refine Tri.bd ?_;unfold cmpI;by_cases h1:a<b
 ·rw[if_pos h1];repeat first|refine aa ?_|intro _|refine jV ?_
  exact KX.en ⟨rfl,rfl⟩
 rw[if_neg h1];by_cases h2:b<a
 ·rw[if_pos h2];repeat first|refine aa ?_|intro _|refine jV ?_
  exact KX.en ⟨rfl,rfl⟩
 rw[if_neg h2];repeat first|refine aa ?_|intro _|refine jV ?_
 exact KX.en ⟨rfl,rfl⟩
def orI(a b:Int):Int:=if a=0 then b else a
def mB{L:LH}(ad:OA)(c:Nat)(a b:Int)[Rds L ad Int (encZ .i64) 1 [a,b]]:Tri ai 58 #[ae ad 2 c] L (rtQ (ac (orI a b)) L):=by
 have hl:([a,b]:List Int).length=2:=rfl;have h0:([a,b]:List Int)[(0:Int).toNat]! = a:=rfl;have h1:([a,b]:List Int)[((0:Int)+1).toNat]! = b:=rfl;unfold orI;refine Tri.bd ?_;refine IF ?_;intros;refine G.d9 3 (GR.step ?_);refine IF ?_;intros;rw[h0];by_cases ha:a=0
 case neg =>
  rw[if_neg ha];refine IF ?_;intros;exact KX.en ⟨rfl,rfl⟩
 rw[if_pos ha];refine IF ?_;intros;refine GR.step ?_;refine IF ?_;intros;rw[h1];by_cases hb:b=0
 case neg =>
  refine IF ?_;intros;exact KX.en ⟨rfl,rfl⟩
 refine IF ?_;intros;refine GR.step ?_;refine IF ?_;intros;exact KX.d7 av (Ent.refl _) ⟨by rw[hb];rfl,rfl⟩
def ko(n:Int):Prop:=0≤n∧n≤1099511627776
instance:DecidablePred ko:=fun n=>by unfold ko;infer_instance
def mj{L:LH}(n:Int):Tri ai 321 #[ac n] L (rtQ (.bool (dB (ko n))) L):=by
 refine Tri.bd ?_;by_cases h1:0≤n
 ·by_cases h2:n≤1099511627776
  ·refine IF ?_;intros;exact KX.d7 av (Ent.refl _) ⟨by rw[aZ h2,aZ (show ko n from⟨h1,h2⟩)];rfl,rfl⟩
  ·refine IF ?_;intros;exact KX.d7 av (Ent.refl _) ⟨by rw[aM h2,aM (fun h:ko n=>h2 h.2)];rfl,rfl⟩
 ·refine IF ?_;intros;exact KX.d7 av (Ent.refl _) ⟨by rw[aM (fun h:ko n=>h1 h.1)];rfl,rfl⟩
def mb(n:Int):Prop:=0≤n∧n≤1152921504606846976
instance:DecidablePred mb:=fun n=>by unfold mb;infer_instance
def pJ{L:LH}(n:Int):Tri ai 334 #[ac n] L (rtQ (.bool (dB (mb n))) L):=by
 refine Tri.bd ?_;by_cases h1:0≤n
 ·by_cases h2:n≤1152921504606846976
  ·refine IF ?_;intros;exact KX.d7 av (Ent.refl _) ⟨by rw[aZ h2,aZ (show mb n from⟨h1,h2⟩)];rfl,rfl⟩
  ·refine IF ?_;intros;exact KX.d7 av (Ent.refl _) ⟨by rw[aM h2,aM (fun h:mb n=>h2 h.2)];rfl,rfl⟩
 ·refine IF ?_;intros;exact KX.d7 av (Ent.refl _) ⟨by rw[aM (fun h:mb n=>h1 h.1)];rfl,rfl⟩
def wa{L:LH}(a0 num a1:Nat)(h1:a0≤1099511627776)(h2:num≤1152921504606846976)(h3:a1≤1152921504606846976)(h0:0<a1)(hq:a0*num / a1≤1099511627776) :
  Tri ai 322 #[ac (a0:Int),ac (num:Int),ac (a1:Int)] L (rtQ (.tuple #[.int .u64 ((a0*num / a1:Nat):Int),.int .u64 ((a0*num % a1:Nat):Int),ac 0]) L):=by
 have e:=fE (a0*num) 18446744073709551616;rw[fM] at e
 have a2:a0*num / 18446744073709551616<a1:=by
  rw[fN ag];have h4:=Nat.lt_div_mul_add (a:=a0*num) h0;have h5:a0*num / a1*a1≤1099511627776*a1:=dI _ hq;omega
 have a3:=fR (a0*num) (show 0<18446744073709551616 by decide);refine Tri.bd ?_;refine IF ?_;intros;refine GO.ca (mj (a0:Int)) ?_;rintro _ L ⟨rfl,rfl⟩;rw[aZ (show ko (a0:Int) from⟨ab,ab⟩)];refine IF ?_;intros;refine GO.ca (pJ (num:Int)) ?_;rintro _ L ⟨rfl,rfl⟩;rw[aZ (show mb (num:Int) from⟨ab,ab⟩)];refine IF ?_;intros;refine GO.ca (pJ (a1:Int)) ?_;rintro _ L ⟨rfl,rfl⟩;rw[aZ (show mb (a1:Int) from⟨ab,ab⟩)];refine IF ?_;intros;refine GO.ca (sD a0 num ab ab) ?_;rintro _ L ⟨rfl,rfl⟩;refine IF ?_;intros;refine GO.ca (sU (a0*num / 18446744073709551616) (a0*num % 18446744073709551616) a1 a2 a3 ab) ?_;rintro _ L ⟨rfl,rfl⟩;rw[e];refine IF ?_;intros;exact KX.en ⟨rfl,rfl⟩
def gj(n i:Nat)(f:Nat→Int):List Int:=(List.range n).map (fun k=>if k<i then f k else 0)
def jR(n i:Nat)(f:Nat→Int):(gj n i f).length=n:=by simp[gj]
def kj(n:Nat)(f:Nat→Int):gj n 0 f=List.replicate n 0:=by
 apply dZ
 ·simp[gj]
 ·intro i h1 h2;simp[gj]
def kU{n i:Nat}(f:Nat→Int)(h:i<n):(gj n i f).set i (f i)=gj n (i+1) f:=by
 apply dZ
 ·simp[gj]
 ·intro j h1 h2;rw[List.getElem_set];simp only[gj,dY,List.getElem_range];by_cases hj:i=j
  ·subst hj;simp
  ·rw[if_neg hj];by_cases h3:j<i
   ·rw[if_pos h3,if_pos ab]
   ·rw[if_neg h3,if_neg ab]
def kV(n:Nat)(f:Nat→Int):gj n n f=(List.range n).map f:=by
 apply dm;intro k hk;rw[if_pos (List.mem_range.1 hk)]
def shCf(rs:List Int)(i j:Nat):Int:=orI (cmpI rs[j]! rs[i]!) (cmpI i j)
def Hl(rs:List Int)(i j:Nat):shCf rs i j<0↔rs[j]! < rs[i]!∨(rs[j]! = rs[i]!∧i<j):=by
 unfold shCf orI cmpI;generalize rs[j]! = x;generalize rs[i]! = y;by_cases h1:x<y
 ·rw[if_pos h1,if_neg ag];omega
 ·rw[if_neg h1];by_cases h2:y<x
  ·rw[if_pos h2,if_neg ag];omega
  ·rw[if_neg h2,if_pos rfl];split
   ·omega
   ·split<;>omega
abbrev yF:=ar5 [.ev 9,.ev 10,.ef 8,.ef 11,.ef 12,.ef 13,.ev 14]
def MJ{φ ψ:Prop}(k:ψ)(h:Hid ψ→φ:=by intro k;(repeat (first|refine aa ?_|intro zzz|refine G.dr 20 1 yF ?_));(repeat revert zzz);exact Hid.out k):φ:=h ⟨k⟩
def yw(b:Nat)(ad:OA)(c:Nat)(rs:List Int)(i j:Nat)(hi:i<rs.length)(hj:j<rs.length)(hl:rs.length≤1000000) :
  Tri ai 324 #[ac (i:Int),ac (j:Int),aq b] [isl qB 1 (some ⟨b,0,none⟩) [⟨ad,rs.length,c⟩],isl (encZ .u64) 1 ad rs] (fun u _=>u=ac (shCf rs i j)):=by
 have a0:(i:Int).toNat=i:=ab;have a1:(j:Int).toNat=j:=ab;have a2:([⟨ad,rs.length,c⟩]:List SlV).length=1:=rfl;refine Tri.bd ?_;refine MJ ?_;intros;refine GPW.evL (Ev.q8 (enc:=qB) (xs:=[⟨ad,rs.length,c⟩]) (j:=0) (o:=0) rfl rfl bH ag (show _=some (ae ad rs.length c) from rfl)) ag ?_;refine MJ ?_;intros;refine GPW.evL (Ev.q8 (enc:=qB) (xs:=[⟨ad,rs.length,c⟩]) (j:=0) (o:=0) rfl rfl bH ag (show _=some (ae ad rs.length c) from rfl)) ag ?_;refine MJ ?_;intros;rw[a0,a1];refine GPW.cr (uO rs[j]! rs[i]!) ?_;refine MJ ?_;intros;refine GPW.cr (jm (i:Int) (j:Int)) ?_;refine MJ ?_;intros;rename_i b2;refine GPW.ent (Ent.e9 (enc:=encZ .i64) (sz:=1) (xs:=[cmpI rs[j]! rs[i]!,cmpI (i:Int) (j:Int)]) rfl rfl (fun _ _=>rfl) bH) ?_;refine GPW.cr (mB (some ⟨b2,0,none⟩) 2 (cmpI rs[j]! rs[i]!) (cmpI (i:Int) (j:Int))) ?_;refine MJ ?_;intros;exact KX.d7 av (Ent.refl _) rfl
