/- Lemmas. -/
import Derived.Shelf.SlGeneric
import Derived.Shelf.SlLaysF
import Derived.Shelf.SlLaysF0
import Derived.Ground.SlsfProg
import Derived.Test.YtlgpgjdggilkgaaGreatDoorEdam
set_option linter.all false
set_option maxHeartbeats 2000000
namespace Go.Proofs
open Go.Shelf
def Tryz.Xg:Go.Shelf.Ren:=⟨λ|6=>321|15=>121|14=>330|28=>181|29=>182|20=>335|21=>336|22=>337|23=>338|24=>339|25=>340|26=>341|27=>342|46=>344|47=>256|48=>257|49=>345|50=>346|57=>347|n=>n,λ|22=>22|24=>3|25=>23|3=>3|39=>61|0=>0|53=>291|55=>293|4=>4|46=>285|45=>284|50=>206|5=>5|9=>9|66=>348|70=>352|76=>380|77=>381|n=>n,λ|n=>n⟩
def Tryz.Xh:Go.Proofs.SlLaysF.n6 Tryz.prog Tryz.Xg:={
 mixed:=by kernel_rfl
 f6:=⟨Tryz.f321.name,by decide,Tryz.func321.trans (congrArg some (by kernel_rfl))⟩
 f14:=⟨Tryz.f330.name,by decide,Tryz.func330.trans (congrArg some (by kernel_rfl))⟩
 f15:=Tryz.func121.trans (congrArg some (by kernel_rfl))
 f20:=⟨Tryz.f335.name,by decide,Tryz.func335.trans (congrArg some (by kernel_rfl))⟩
 f21:=⟨Tryz.f336.name,by decide,Tryz.func336.trans (congrArg some (by kernel_rfl))⟩
 f22:=⟨Tryz.f337.name,by decide,Tryz.func337.trans (congrArg some (by kernel_rfl))⟩
 f23:=⟨Tryz.f338.name,by decide,Tryz.func338.trans (congrArg some (by kernel_rfl))⟩
 f24:=⟨Tryz.f339.name,by decide,Tryz.func339.trans (congrArg some (by kernel_rfl))⟩
 f25:=⟨Tryz.f340.name,by decide,Tryz.func340.trans (congrArg some (by kernel_rfl))⟩
 f26:=⟨Tryz.f341.name,by decide,Tryz.func341.trans (congrArg some (by kernel_rfl))⟩
 f27:=⟨Tryz.f342.name,by decide,Tryz.func342.trans (congrArg some (by kernel_rfl))⟩
 f28:=Tryz.func181.trans (congrArg some (by kernel_rfl))
 f29:=Tryz.func182.trans (congrArg some (by kernel_rfl))
 f46:=⟨Tryz.f344.name,by decide,Tryz.func344.trans (congrArg some (by kernel_rfl))⟩
 f47:=Tryz.func256.trans (congrArg some (by kernel_rfl))
 f48:=Tryz.func257.trans (congrArg some (by kernel_rfl))
 f49:=⟨Tryz.f345.name,by decide,Tryz.func345.trans (congrArg some (by kernel_rfl))⟩
 f50:=⟨Tryz.f346.name,by decide,Tryz.func346.trans (congrArg some (by kernel_rfl))⟩
 f57:=⟨Tryz.f347.name,by decide,Tryz.func347.trans (congrArg some (by kernel_rfl))⟩
 t0:=Tryz.underlying0
 a0:=Tryz.isAgg0
 z0:=Tryz.sizeOf0
 v0:=Tryz.zeroValue0
 t3:=Tryz.underlying3
 a3:=Tryz.isAgg3
 z3:=Tryz.sizeOf3
 v3:=Tryz.zeroValue3
 t4:=Tryz.underlying4
 a4:=Tryz.isAgg4
 z4:=Tryz.sizeOf4
 v4:=Tryz.zeroValue4
 t5:=Tryz.underlying5
 a5:=Tryz.isAgg5
 z5:=Tryz.sizeOf5
 v5:=Tryz.zeroValue5
 t9:=Tryz.underlying9
 a9:=Tryz.isAgg9
 z9:=Tryz.sizeOf9
 v9:=Tryz.zeroValue9
 t22:=Tryz.underlying22
 a22:=Tryz.isAgg22
 z22:=Tryz.sizeOf22
 v22:=Tryz.zeroValue22
 a24:=Tryz.isAgg3
 z24:=Tryz.sizeOf3
 t25:=Tryz.underlying23
 a25:=Tryz.isAgg23
 z25:=Tryz.sizeOf23
 v25:=Tryz.zeroValue23
 t39:=Tryz.underlying61
 a39:=Tryz.isAgg61
 z39:=Tryz.sizeOf61
 v39:=Tryz.zeroValue61
 t45:=Tryz.underlying284
 a45:=Tryz.isAgg284
 z45:=Tryz.sizeOf284
 v45:=Tryz.zeroValue284
 t46:=Tryz.underlying285
 a46:=Tryz.isAgg285
 z46:=Tryz.sizeOf285
 v46:=Tryz.zeroValue285
 t50:=Tryz.underlying206
 a50:=Tryz.isAgg206
 z50:=Tryz.sizeOf206
 v50:=Tryz.zeroValue206
 t53:=Tryz.underlying291
 a53:=Tryz.isAgg291
 z53:=Tryz.sizeOf291
 v53:=Tryz.zeroValue291
 t55:=Tryz.underlying293
 a55:=Tryz.isAgg293
 z55:=Tryz.sizeOf293
 v55:=Tryz.zeroValue293
 t66:=Tryz.underlying348
 a66:=Tryz.isAgg348
 z66:=Tryz.sizeOf348
 v66:=Tryz.zeroValue348
 t70:=Tryz.underlying352
 a70:=Tryz.isAgg352
 z70:=Tryz.sizeOf352
 v70:=Tryz.zeroValue352
 t76:=Tryz.underlying380
 a76:=Tryz.isAgg380
 z76:=Tryz.sizeOf380
 v76:=Tryz.zeroValue380
 t77:=Tryz.underlying381
 a77:=Tryz.isAgg381
 z77:=Tryz.sizeOf381
 v77:=Tryz.zeroValue381 }
def Tryz.Xi:Go.Shelf.Ren:=⟨λ|6=>59|15=>121|14=>120|28=>181|29=>182|20=>173|21=>174|22=>175|23=>176|24=>177|25=>178|26=>179|27=>180|46=>255|47=>256|48=>257|49=>258|50=>259|57=>295|n=>n,λ|22=>56|24=>73|25=>140|3=>3|39=>61|0=>0|53=>291|55=>293|4=>4|46=>285|45=>284|50=>206|5=>5|9=>9|66=>348|70=>352|76=>380|77=>381|n=>n,λ|n=>n⟩
def Tryz.Y9:Go.Proofs.SlLaysF0.n6 Tryz.prog Tryz.Xi:={
 mixed:=by kernel_rfl
 f6:=⟨Tryz.f59.name,by decide,Tryz.func59.trans (congrArg some (by kernel_rfl))⟩
 f14:=⟨Tryz.f120.name,by decide,Tryz.func120.trans (congrArg some (by kernel_rfl))⟩
 f15:=Tryz.func121.trans (congrArg some (by kernel_rfl))
 f20:=⟨Tryz.f173.name,by decide,Tryz.func173.trans (congrArg some (by kernel_rfl))⟩
 f21:=⟨Tryz.f174.name,by decide,Tryz.func174.trans (congrArg some (by kernel_rfl))⟩
 f22:=⟨Tryz.f175.name,by decide,Tryz.func175.trans (congrArg some (by kernel_rfl))⟩
 f23:=⟨Tryz.f176.name,by decide,Tryz.func176.trans (congrArg some (by kernel_rfl))⟩
 f24:=⟨Tryz.f177.name,by decide,Tryz.func177.trans (congrArg some (by kernel_rfl))⟩
 f25:=⟨Tryz.f178.name,by decide,Tryz.func178.trans (congrArg some (by kernel_rfl))⟩
 f26:=⟨Tryz.f179.name,by decide,Tryz.func179.trans (congrArg some (by kernel_rfl))⟩
 f27:=⟨Tryz.f180.name,by decide,Tryz.func180.trans (congrArg some (by kernel_rfl))⟩
 f28:=Tryz.func181.trans (congrArg some (by kernel_rfl))
 f29:=Tryz.func182.trans (congrArg some (by kernel_rfl))
 f46:=⟨Tryz.f255.name,by decide,Tryz.func255.trans (congrArg some (by kernel_rfl))⟩
 f47:=Tryz.func256.trans (congrArg some (by kernel_rfl))
 f48:=Tryz.func257.trans (congrArg some (by kernel_rfl))
 f49:=⟨Tryz.f258.name,by decide,Tryz.func258.trans (congrArg some (by kernel_rfl))⟩
 f50:=⟨Tryz.f259.name,by decide,Tryz.func259.trans (congrArg some (by kernel_rfl))⟩
 f57:=⟨Tryz.f295.name,by decide,Tryz.func295.trans (congrArg some (by kernel_rfl))⟩
 t0:=Tryz.underlying0
 a0:=Tryz.isAgg0
 z0:=Tryz.sizeOf0
 v0:=Tryz.zeroValue0
 t3:=Tryz.underlying3
 a3:=Tryz.isAgg3
 z3:=Tryz.sizeOf3
 v3:=Tryz.zeroValue3
 t4:=Tryz.underlying4
 a4:=Tryz.isAgg4
 z4:=Tryz.sizeOf4
 v4:=Tryz.zeroValue4
 t5:=Tryz.underlying5
 a5:=Tryz.isAgg5
 z5:=Tryz.sizeOf5
 v5:=Tryz.zeroValue5
 t9:=Tryz.underlying9
 a9:=Tryz.isAgg9
 z9:=Tryz.sizeOf9
 v9:=Tryz.zeroValue9
 t22:=Tryz.underlying56
 a22:=Tryz.isAgg56
 z22:=Tryz.sizeOf56
 v22:=Tryz.zeroValue56
 t25:=Tryz.underlying140
 a25:=Tryz.isAgg140
 z25:=Tryz.sizeOf140
 v25:=Tryz.zeroValue140
 t39:=Tryz.underlying61
 a39:=Tryz.isAgg61
 z39:=Tryz.sizeOf61
 v39:=Tryz.zeroValue61
 t45:=Tryz.underlying284
 a45:=Tryz.isAgg284
 z45:=Tryz.sizeOf284
 v45:=Tryz.zeroValue284
 t46:=Tryz.underlying285
 a46:=Tryz.isAgg285
 z46:=Tryz.sizeOf285
 v46:=Tryz.zeroValue285
 t50:=Tryz.underlying206
 a50:=Tryz.isAgg206
 z50:=Tryz.sizeOf206
 v50:=Tryz.zeroValue206
 t53:=Tryz.underlying291
 a53:=Tryz.isAgg291
 z53:=Tryz.sizeOf291
 v53:=Tryz.zeroValue291
 t55:=Tryz.underlying293
 a55:=Tryz.isAgg293
 z55:=Tryz.sizeOf293
 v55:=Tryz.zeroValue293
 t66:=Tryz.underlying348
 a66:=Tryz.isAgg348
 z66:=Tryz.sizeOf348
 v66:=Tryz.zeroValue348
 t70:=Tryz.underlying352
 a70:=Tryz.isAgg352
 z70:=Tryz.sizeOf352
 v70:=Tryz.zeroValue352
 t76:=Tryz.underlying380
 a76:=Tryz.isAgg380
 z76:=Tryz.sizeOf380
 v76:=Tryz.zeroValue380
 t77:=Tryz.underlying381
 a77:=Tryz.isAgg381
 z77:=Tryz.sizeOf381
 v77:=Tryz.zeroValue381 }
def Tryz.Xj:Go.Shelf.Ren:=⟨λ|6=>117|15=>121|14=>170|28=>181|29=>182|20=>247|21=>248|22=>249|23=>250|24=>251|25=>252|26=>253|27=>254|46=>292|47=>256|48=>257|49=>293|50=>294|57=>309|n=>n,λ|22=>35|24=>47|25=>225|3=>3|39=>61|0=>0|53=>291|55=>293|4=>4|46=>285|45=>284|50=>206|5=>5|9=>9|66=>348|70=>352|76=>380|77=>381|n=>n,λ|n=>n⟩
def Tryz.Za:Go.Proofs.SlLaysF0.n6 Tryz.prog Tryz.Xj:={
 mixed:=by kernel_rfl
 f6:=⟨Tryz.f117.name,by decide,Tryz.func117.trans (congrArg some (by kernel_rfl))⟩
 f14:=⟨Tryz.f170.name,by decide,Tryz.func170.trans (congrArg some (by kernel_rfl))⟩
 f15:=Tryz.func121.trans (congrArg some (by kernel_rfl))
 f20:=⟨Tryz.f247.name,by decide,Tryz.func247.trans (congrArg some (by kernel_rfl))⟩
 f21:=⟨Tryz.f248.name,by decide,Tryz.func248.trans (congrArg some (by kernel_rfl))⟩
 f22:=⟨Tryz.f249.name,by decide,Tryz.func249.trans (congrArg some (by kernel_rfl))⟩
 f23:=⟨Tryz.f250.name,by decide,Tryz.func250.trans (congrArg some (by kernel_rfl))⟩
 f24:=⟨Tryz.f251.name,by decide,Tryz.func251.trans (congrArg some (by kernel_rfl))⟩
 f25:=⟨Tryz.f252.name,by decide,Tryz.func252.trans (congrArg some (by kernel_rfl))⟩
 f26:=⟨Tryz.f253.name,by decide,Tryz.func253.trans (congrArg some (by kernel_rfl))⟩
 f27:=⟨Tryz.f254.name,by decide,Tryz.func254.trans (congrArg some (by kernel_rfl))⟩
 f28:=Tryz.func181.trans (congrArg some (by kernel_rfl))
 f29:=Tryz.func182.trans (congrArg some (by kernel_rfl))
 f46:=⟨Tryz.f292.name,by decide,Tryz.func292.trans (congrArg some (by kernel_rfl))⟩
 f47:=Tryz.func256.trans (congrArg some (by kernel_rfl))
 f48:=Tryz.func257.trans (congrArg some (by kernel_rfl))
 f49:=⟨Tryz.f293.name,by decide,Tryz.func293.trans (congrArg some (by kernel_rfl))⟩
 f50:=⟨Tryz.f294.name,by decide,Tryz.func294.trans (congrArg some (by kernel_rfl))⟩
 f57:=⟨Tryz.f309.name,by decide,Tryz.func309.trans (congrArg some (by kernel_rfl))⟩
 t0:=Tryz.underlying0
 a0:=Tryz.isAgg0
 z0:=Tryz.sizeOf0
 v0:=Tryz.zeroValue0
 t3:=Tryz.underlying3
 a3:=Tryz.isAgg3
 z3:=Tryz.sizeOf3
 v3:=Tryz.zeroValue3
 t4:=Tryz.underlying4
 a4:=Tryz.isAgg4
 z4:=Tryz.sizeOf4
 v4:=Tryz.zeroValue4
 t5:=Tryz.underlying5
 a5:=Tryz.isAgg5
 z5:=Tryz.sizeOf5
 v5:=Tryz.zeroValue5
 t9:=Tryz.underlying9
 a9:=Tryz.isAgg9
 z9:=Tryz.sizeOf9
 v9:=Tryz.zeroValue9
 t22:=Tryz.underlying35
 a22:=Tryz.isAgg35
 z22:=Tryz.sizeOf35
 v22:=Tryz.zeroValue35
 t25:=Tryz.underlying225
 a25:=Tryz.isAgg225
 z25:=Tryz.sizeOf225
 v25:=Tryz.zeroValue225
 t39:=Tryz.underlying61
 a39:=Tryz.isAgg61
 z39:=Tryz.sizeOf61
 v39:=Tryz.zeroValue61
 t45:=Tryz.underlying284
 a45:=Tryz.isAgg284
 z45:=Tryz.sizeOf284
 v45:=Tryz.zeroValue284
 t46:=Tryz.underlying285
 a46:=Tryz.isAgg285
 z46:=Tryz.sizeOf285
 v46:=Tryz.zeroValue285
 t50:=Tryz.underlying206
 a50:=Tryz.isAgg206
 z50:=Tryz.sizeOf206
 v50:=Tryz.zeroValue206
 t53:=Tryz.underlying291
 a53:=Tryz.isAgg291
 z53:=Tryz.sizeOf291
 v53:=Tryz.zeroValue291
 t55:=Tryz.underlying293
 a55:=Tryz.isAgg293
 z55:=Tryz.sizeOf293
 v55:=Tryz.zeroValue293
 t66:=Tryz.underlying348
 a66:=Tryz.isAgg348
 z66:=Tryz.sizeOf348
 v66:=Tryz.zeroValue348
 t70:=Tryz.underlying352
 a70:=Tryz.isAgg352
 z70:=Tryz.sizeOf352
 v70:=Tryz.zeroValue352
 t76:=Tryz.underlying380
 a76:=Tryz.isAgg380
 z76:=Tryz.sizeOf380
 v76:=Tryz.zeroValue380
 t77:=Tryz.underlying381
 a77:=Tryz.isAgg381
 z77:=Tryz.sizeOf381
 v77:=Tryz.zeroValue381 }
end Go.Proofs
namespace Go.Proofs.YtlgpgjdggilkgaaGreatDoor
section
open Go.V
attribute [local irreducible] Β Y GP δ vi Z Ef C0 E CB GB Enters
def Pd(a b:Int):Int:=if a<b then -1 else if b<a then 1 else 0
def jC{φ ψ:Prop}(k:ψ)(h:Hid ψ->φ:=by intro k;first|refine Y.ci (f:=122) (Hid.out k)|refine δ.ci (f:=122) (Hid.out k)|refine Y.cf (f:=122) rfl (Hid.out k)|refine δ.cf (f:=122) rfl (Hid.out k)|refine KX.RY (Hid.out k)):φ:=h ⟨k⟩
def kn{L:Ι}(a b:Int):Υ Tryz.prog 62 #[K a,K b] L (F7 (K (Pd a b)) L):=by
 refine Υ.bd ?_;unfold Pd;by_cases I:a<b
 .rw[Ω I];repeat first|refine ab ?_|intro _|refine jC ?_
  exact KX.en ⟨rfl,rfl⟩
 rw[Ο I];by_cases Q:b<a
 .rw[Ω Q];repeat first|refine ab ?_|intro _|refine jC ?_
  exact KX.en ⟨rfl,rfl⟩
 rw[Ο Q];repeat first|refine ab ?_|intro _|refine jC ?_
 exact KX.en ⟨rfl,rfl⟩
def jB{φ ψ:Prop}(k:ψ)(h:Hid ψ->φ:=by intro k;first|refine Y.ci (f:=331) (Hid.out k)|refine δ.ci (f:=331) (Hid.out k)|refine Y.cf (f:=331) rfl (Hid.out k)|refine δ.cf (f:=331) rfl (Hid.out k)|refine KX.RY (Hid.out k)):φ:=h ⟨k⟩
def Hs{L:Ι}(a b:Int):Υ Tryz.prog 323 #[.int .u64 a,.int .u64 b] L (F7 (K (Pd a b)) L):=by
 refine Υ.bd ?_;unfold Pd;by_cases I:a<b
 .rw[Ω I];repeat first|refine ab ?_|intro _|refine jB ?_
  exact KX.en ⟨rfl,rfl⟩
 rw[Ο I];by_cases Q:b<a
 .rw[Ω Q];repeat first|refine ab ?_|intro _|refine jB ?_
  exact KX.en ⟨rfl,rfl⟩
 rw[Ο Q];repeat first|refine ab ?_|intro _|refine jB ?_
 exact KX.en ⟨rfl,rfl⟩
def Un(a b:Int):Int:=if a=0 then b else a
def pE{L:Ι}(ad:OA)(c:Nat)(a b:Int)[F5 L ad Int (eU .i64) 1 [a,b]]:Υ Tryz.prog 61 #[ae ad 2 c] L (F7 (K (Un a b)) L):=by
 have T:([a,b]:List Int).length=2:=rfl;have h0:([a,b]:List Int)[(0:Int).toNat]! = a:=rfl;have I:([a,b]:List Int)[((0:Int)+1).toNat]! = b:=rfl;unfold Un;refine Υ.bd ?_;refine ML ?_;intros;refine Β.d9 3 (GR.step ?_);refine ML ?_;intros;rw[h0];by_cases ha:a=0
 case neg =>
  rw[Ο ha];refine ML ?_;intros;exact KX.en ⟨rfl,rfl⟩
 rw[Ω ha];refine ML ?_;intros;refine GR.step ?_;refine ML ?_;intros;rw[I];by_cases hb:b=0
 case neg =>
  refine ML ?_;intros;exact KX.en ⟨rfl,rfl⟩
 refine ML ?_;intros;refine GR.step ?_;refine ML ?_;intros;exact KX.a8 aC (E.refl _) ⟨by rw[hb];rfl,rfl⟩
def kc(n:Int):Prop:=0<=n/\n<=1099511627776
instance:DecidablePred kc:=λn=>by unfold kc;infer_instance
def mj{L:Ι}(n:Int):Υ Tryz.prog 319 #[K n] L (F7 (.bool (dB (kc n))) L):=by
 refine Υ.bd ?_;by_cases I:0<=n
 .by_cases Q:n<=1099511627776
  .refine ML ?_;intros;exact KX.a8 aC (E.refl _) ⟨by rw[bO Q,bO (show kc n from⟨I,Q⟩)];rfl,rfl⟩
  .refine ML ?_;intros;exact KX.a8 aC (E.refl _) ⟨by rw[bz Q,bz (λh:kc n=>Q h.2)];rfl,rfl⟩
 .refine ML ?_;intros;exact KX.a8 aC (E.refl _) ⟨by rw[bz (λh:kc n=>I h.1)];rfl,rfl⟩
def ma(n:Int):Prop:=0<=n/\n<=1152921504606846976
instance:DecidablePred ma:=λn=>by unfold ma;infer_instance
def qN{L:Ι}(n:Int):Υ Tryz.prog 327 #[K n] L (F7 (.bool (dB (ma n))) L):=by
 refine Υ.bd ?_;by_cases I:0<=n
 .by_cases Q:n<=1152921504606846976
  .refine ML ?_;intros;exact KX.a8 aC (E.refl _) ⟨by rw[bO Q,bO (show ma n from⟨I,Q⟩)];rfl,rfl⟩
  .refine ML ?_;intros;exact KX.a8 aC (E.refl _) ⟨by rw[bz Q,bz (λh:ma n=>Q h.2)];rfl,rfl⟩
 .refine ML ?_;intros;exact KX.a8 aC (E.refl _) ⟨by rw[bz (λh:ma n=>I h.1)];rfl,rfl⟩
theorem yb{L:Ι}(A num J:Nat)(I:A<=1099511627776)(Q:num<=1152921504606846976)(h3:J<=1152921504606846976)(h0:0<J)(hq:A*num / J<=1099511627776) :
  Υ Tryz.prog 320 #[K (A:Int),K (num:Int),K (J:Int)] L (F7 (.tuple #[.int .u64 ((A*num / J:Nat):Int),.int .u64 ((A*num % J:Nat):Int),K 0]) L):=by
 have e:=fQ (A*num) 18446744073709551616;rw[Nat.mul_comm] at e
 have a2:A*num / 18446744073709551616<J:=by
  rw[fy ac];have h4:=Nat.lt_div_mul_add (a:=A*num) h0;have h5:A*num / J*J<=1099511627776*J:=bS _ hq;omega
 have a3:=dW (A*num) (show 0<18446744073709551616 by decide);refine Υ.bd ?_;refine ML ?_;intros;refine Y.ca (mj (A:Int)) ?_;rintro _ L ⟨rfl,rfl⟩;rw[bO (show kc (A:Int) from⟨D,D⟩)];refine ML ?_;intros;refine Y.ca (qN (num:Int)) ?_;rintro _ L ⟨rfl,rfl⟩;rw[bO (show ma (num:Int) from⟨D,D⟩)];refine ML ?_;intros;refine Y.ca (qN (J:Int)) ?_;rintro _ L ⟨rfl,rfl⟩;rw[bO (show ma (J:Int) from⟨D,D⟩)];refine ML ?_;intros;refine Y.ca (EB A num D D) ?_;rintro _ L ⟨rfl,rfl⟩;refine ML ?_;intros;refine Y.ca (Fa (A*num / 18446744073709551616) (A*num % 18446744073709551616) J a2 a3 D) ?_;rintro _ L ⟨rfl,rfl⟩;rw[e];refine ML ?_;intros;exact KX.en ⟨rfl,rfl⟩
def iy(n i:Nat)(f:Nat->Int):List Int:=(List.range n).map (λk=>if k<i then f k else 0)
def nY(n i:Nat)(f:Nat->Int):(iy n i f).length=n:=by simp[iy]
def mJ(n:Nat)(f:Nat->Int):iy n 0 f=List.replicate n 0:=by
 apply eX
 .simp[iy]
 .intro i I Q;simp[iy]
theorem nX{n i:Nat}(f:Nat->Int)(h:i<n):(iy n i f).set i (f i)=iy n (i+1) f:=by
 apply eX
 .simp[iy]
 grind [iy]
theorem nZ(n:Nat)(f:Nat->Int):iy n n f=(List.range n).map f:=by
 apply aU;grind
def Vo(rs:List Int)(i j:Nat):Int:=Un (Pd rs[j]! rs[i]!) (Pd i j)
theorem Kb(rs:List Int)(i j:Nat):Vo rs i j<0↔rs[j]! < rs[i]!\/(rs[j]! = rs[i]!/\i<j):=by
 grind [Vo,Un,Pd]
abbrev AK:=Yt [.ev 9,.ev 10,.ef 8,.ef 11,.ef 12,.ef 13,.ev 14]
def Ow{φ ψ:Prop}(k:ψ)(h:Hid ψ->φ:=by intro k;(repeat (first|refine ab ?_|intro B8|refine Β.dr 20 1 AK ?_));(repeat revert B8);exact Hid.out k):φ:=h ⟨k⟩
def AC(b:Nat)(ad:OA)(c:Nat)(rs:List Int)(i j:Nat)(hi:i<rs.length)(hj:j<rs.length)(T:rs.length<=1000000) :
  Υ Tryz.prog 322 #[K (i:Int),K (j:Int),ay b] [τ rN 1 (some ⟨b,0,none⟩) [⟨ad,rs.length,c⟩],τ (eU .u64) 1 ad rs] (λu _=>u=K (Vo rs i j)):=by
 have A:(i:Int).toNat=i:=D;have J:(j:Int).toNat=j:=D;have a2:([⟨ad,rs.length,c⟩]:List Sn).length=1:=rfl;refine Υ.bd ?_;refine Ow ?_;intros;refine δ.NV (Z.n5 (Η:=rN) (G:=[⟨ad,rs.length,c⟩]) (j:=0) (o:=0) rfl rfl cg ac (show _=some (ae ad rs.length c) from rfl)) ac ?_;refine Ow ?_;intros;refine δ.NV (Z.n5 (Η:=rN) (G:=[⟨ad,rs.length,c⟩]) (j:=0) (o:=0) rfl rfl cg ac (show _=some (ae ad rs.length c) from rfl)) ac ?_;refine Ow ?_;intros;rw[A,J];refine δ.cr (Hs rs[j]! rs[i]!) ?_;refine Ow ?_;intros;refine δ.cr (kn (i:Int) (j:Int)) ?_;refine Ow ?_;intros;rename_i b2;refine δ.cM (E.d9 (Η:=eU .i64) (sz:=1) (G:=[Pd rs[j]! rs[i]!,Pd (i:Int) (j:Int)]) rfl rfl (λ_ _=>rfl) cg) ?_;refine δ.cr (pE (some ⟨b2,0,none⟩) 2 (Pd rs[j]! rs[i]!) (Pd (i:Int) (j:Int))) ?_;refine Ow ?_;intros;exact KX.a8 aC (E.refl _) rfl
end
section
open Go.V
attribute [local irreducible] Β Y GP δ vi Z Ef C0 E CB GB V.Enters
def vA{α β:Type}{e1:α->χ}{e2:β->χ}{s1 s2:Nat}{J a2:OA}{x1:List α}{x2:List β}:∀ι h,MS [τ e1 s1 J x1,τ e2 s2 a2 x2] ι h->MS [τ e1 s1 J x1,τ e2 s2 a2 x2] ι Hp.emp:=by
 rintro ι h ⟨G6,E4,D5,a,b,c,Ξ,e,RU,h₃,h₄,a',b',c',d',e',f'⟩;exact⟨G6,Hp.emp,Hp.emp,a,Hp.c7 _,Hp.a8 _,Hp.a8 _,e,RU,Hp.emp,Hp.emp,a',Hp.c7 _,Hp.a8 _,Hp.a8 _,e',trivial⟩
def To(l:π):List Int:=l.map (λx=>x.2.2)
def JM(l:π):(To l).length=l.length:=by simp[To]
def BZ{l:π}{k:Nat}(h:k<l.length):(To l)[k]! = l[k]!.2.2:=sU _ h
def ud{l:π}{n:Int}(T:∀x∈l,a0 x)(h0:0<=n)(I:n<=aW l){k:Nat}(hk:k<l.length):0<=Nd l n k/\Nd l n k<=l[k]!.2.2:=by
 have hs:=lz T hk;have hw:=T _ (bI hk);unfold a0 at hw;refine⟨jc (Int.mul_nonneg h0 D) D,?_⟩;unfold Nd;refine Int.ediv_le_of_le_mul hs ?_;rw[Int.mul_comm];exact Int.mul_le_mul_of_nonneg_left I D
theorem xc{L:Ι}(n w s:Int)(h0:0<=n)(I:n<=1099511627776)(Q:0<=w)(h3:w<=1152921504606846976)(h4:0<s)(h5:s<=1152921504606846976)(hq:n*w / s<=1099511627776) :
  Υ Tryz.prog 320 #[K n,K w,K s] L (F7 (.tuple #[.int .u64 (n*w / s),.int .u64 (n*w % s),K 0]) L):=by
 obtain⟨nN,rfl⟩:∃nN:Nat,n=(nN:Int):=⟨n.toNat,D⟩;obtain⟨wN,rfl⟩:∃wN:Nat,w=(wN:Int):=⟨w.toNat,D⟩;obtain⟨sN,rfl⟩:∃sN:Nat,s=(sN:Int):=⟨s.toNat,D⟩;have e1:(nN:Int)*(wN:Int) / (sN:Int)=((nN*wN / sN:Nat):Int):=by rw[Int.natCast_ediv,Int.natCast_mul]
 grind [yb]
def xU{ζ cap:Nat}{ad:OA}{α:Type}[Inhabited α]{Η:α->Value}(I:OneCell Η){G:List α}{Lc:Ι}{g:Nat}{cb:Array Value}(cf:α->α->Int)(hO:Go.Sort.SWO (ltOf cf))(a2:V.Enters Tryz.prog g)(A:∀ι h,MS Lc ι h->MS Lc ι Hp.emp)(J:∀x y:α,Υ Tryz.prog g (#[Η x,Η y]++cb) Lc (λu _=>u=K (cf x y)))(a3:G.length<4611686018427387904) :
  Υ Tryz.prog 321 #[ae ad G.length cap,.func (.func g) #[] cb] (μ (λx=>[Η x]) 1 ζ ad cap G::Lc) (λv Ε=>v=.tuple #[]/\∃ys,gY cf G ys/\Ε = μ (λx=>[Η x]) 1 ζ ad cap ys::Lc) :=
 Υ.c8 (ρ:=Tryz.Xg) Tryz.Xh { Tryz.Xh with } I cf hO MC a2 A J a3
theorem qX(n:Nat):(List.finRange n).map (λi=>i.val)=List.range n:=by
 apply eX
 .simp
 grind
theorem qf{f:Nat->Int}{n k:Nat}(h:k<n):((List.range n).map f)[k]! = f k:=by
 grind
def xr(R:Nat->Int)(n:Nat)(i j:Fin n):Int:=Vo ((List.range n).map R) i.val j.val
theorem pj(R:Nat->Int)(n:Nat)(i j:Fin n):xr R n i j<0↔R j.val<R i.val\/(R j.val=R i.val/\i.val<j.val):=by
 grind [xr,Kb]
theorem FG(R:Nat->Int)(n:Nat):Go.Sort.SWO (ltOf (xr R n)) where
 irrefl x:=by grind [ltOf,pj]
 trans x y z I Q:=by grind [ltOf,pj]
 ntrans x y z I Q:=by grind [ltOf,pj]
abbrev Xk:Nat:=293
abbrev Dr:Nat:=202
abbrev yr:=Yu [.ev 10,.ef 11,.ev 12,.ef 13,.ev 14,.ef 15]
def cn{φ ψ:Prop}(k:ψ)(h:Hid ψ->φ:=by intro k;(with_reducible apply Β.a8);first|refine Β.dr 100 23 yr (Hid.out k)):φ:=h ⟨k⟩
def OD{φ ψ:Prop}(k:ψ)(h:Hid ψ->φ:=by intro k;(repeat (first|refine ab ?_|intro B8|refine cn ?_));(repeat revert B8);exact Hid.out k):φ:=h ⟨k⟩
theorem Dv{L:Ι}(ad:OA)(c:Nat)(l:π)(n:Int)[hrd:F5 L ad Int (eU .i64) 1 (To l)](e2:l.length<=4096)(T:∀x∈l,a0 x)(c3:l≠[])(h0:0<=n)(I:n<=aW l)(Q:n<=1099511627776) :
  Υ Tryz.prog 312 #[K n,ae ad l.length c] L (λv Ε=>∃b2 a7,v=.tuple #[ae b2 l.length a7,K 0]/\Ε = μ (eU .i64) 1 C3 b2 a7 ((List.range l.length).map (PR l n))::L):=by
 have a9:0<l.length:=ah;have e7:=JM l;have hs:=lz T a9;have d3:=lA T l.length D;rw[nq] at d3;have hm:(l.length:Int)*1099511627776<=4096*1099511627776:=D;refine Υ.bd ?_;refine OD ?_;intros;refine Y.ca (mj n) ?_;rintro _ L ⟨rfl,rfl⟩;rw[bO (show kc n from⟨h0,Q⟩)];repeat first|refine Β.sm 4 ?_|refine dz ?_|intro _|refine cn ?_
 refine Β.c7 (α:=Unit) (λ_=>True) (λ_=>[(0,K n),(1,ae ad l.length c),(6,K (aW l))]) (λ_=>L) ?_ ?_
 .refine OD ?_;intros;refine Β.loop (α:=Nat) (λi=>i<=l.length) (λi=>[(0,K n),(1,ae ad l.length c),(6,K (aW (l.take i))),(21,ae ad l.length c),(22,K l.length),(23,K (i:Int))]) (λ_=>L) (λi=>l.length - i) 0 D aG (E.refl _) ?_;intro i hi;by_cases A:i<l.length
  case neg =>
   have hin:i=l.length:=D;subst hin;rw[nq];refine OD ?_;intros;exact⟨(),trivial,aG,E.refl _⟩
  have a5:(i:Int).toNat=i:=D;have b0:=T _ (bI A);unfold a0 at b0;have b7:=lA T i D;have b8:=gB l A;have c2:(i:Int)*1099511627776<=4096*1099511627776:=D;refine OD ?_;intros;rw[a5,BZ A];refine Y.ca (mj l[i]!.2.2) ?_;rintro _ L ⟨rfl,rfl⟩;rw[bO (show kc l[i]!.2.2 from⟨D,D⟩)];refine OD ?_;intros;refine⟨i+1,D,D,?_,E.refl _⟩;rw[b8,bJ i];exact aG
 rintro _ _;refine OD ?_;intros;refine Y.ef (Ef.makeSlice (eU .i64) 0 rfl rfl rfl D D D) ac ?_;rintro _ _⟨bp,rfl,rfl⟩;rw[bB,<-mJ l.length (Nd l n)];refine OD ?_;intros;refine Y.ef (Ef.makeSlice (eU .u64) 0 rfl rfl rfl D D D) ac ?_;rintro _ _⟨br,rfl,rfl⟩;rw[bB,<-mJ l.length (N4 l n)];refine OD ?_;intros;rename_i bv;refine Y.ef (Ef.makeSlice (eU .i64) 0 rfl rfl rfl D D D) ac ?_;rintro _ _⟨bo,rfl,rfl⟩;rw[bB,<-mJ l.length (λk:Nat=>(k:Int))];repeat first|refine Β.sm 19 ?_|refine dz ?_|intro _|refine cn ?_
 refine Β.c7 (α:=Unit) (λ_=>True) (λ_=>[(9,ae (some ⟨bp,0,none⟩) l.length l.length),(10,ay bv),(11,ae (some ⟨bo,0,none⟩) l.length l.length),(12,K (iS l n))])
  (λ_=>μ (eU .i64) 1 C3 (some ⟨bp,0,none⟩) l.length ((List.range l.length).map (Nd l n))::obj bv Dr [ae (some ⟨br,0,none⟩) l.length l.length]::μ (eU .u64) 1 Xk (some ⟨br,0,none⟩) l.length ((List.range l.length).map (N4 l n))::μ (eU .i64) 1 C3 (some ⟨bo,0,none⟩) l.length ((List.range l.length).map (λk:Nat=>(k:Int)))::L) ?_ ?_
 .refine OD ?_;intros
  refine Β.loop (α:=Nat) (λi=>i<=l.length) (λi=>[(0,K n),(1,ae ad l.length c),(6,K (aW l)),(9,ae (some ⟨bp,0,none⟩) l.length l.length),(10,ay bv),(11,ae (some ⟨bo,0,none⟩) l.length l.length),(12,K (n - dL i (Nd l n))),(49,K l.length),(50,K (i:Int))])
   (λi=>μ (eU .i64) 1 C3 (some ⟨bp,0,none⟩) l.length (iy l.length i (Nd l n))::obj bv Dr [ae (some ⟨br,0,none⟩) l.length l.length]::μ (eU .u64) 1 Xk (some ⟨br,0,none⟩) l.length (iy l.length i (N4 l n))::μ (eU .i64) 1 C3 (some ⟨bo,0,none⟩) l.length (iy l.length i (λk:Nat=>(k:Int)))::L) (λi=>l.length - i) 0 D ?_ aj ?_
  .rw[mB,Int.sub_zero];exact aG
  intro i hi;have d5:=nY l.length i (Nd l n);have d6:=nY l.length i (N4 l n);have e0:=nY l.length i (λk:Nat=>(k:Int));by_cases A:i<l.length
  case neg =>
   have hin:i=l.length:=D;subst hin;rw[nZ,nZ,nZ,<-qt];refine OD ?_;intros;exact⟨(),trivial,aG,by exact aj⟩
  have a5:(i:Int).toNat=i:=D;have b0:=T _ (bI A);unfold a0 at b0
  have e6:0<=dL i (Nd l n)/\dL i (Nd l n)<=aW (l.take i):=by
   rw[show aW (l.take i)=dL i (λk=>l[k]!.2.2) by unfold dL;rw[pu l i hi]];refine⟨?_,pf (λk hk=>(ud T h0 I D).2)⟩;have:=pf (n:=i) (f:=λ_=>0) (g:=Nd l n) (λk hk=>(ud T h0 I D).1)
   rw[rU] at this;omega
  have b7:=lA T i D;have c2:(i:Int)*1099511627776<=4096*1099511627776:=D;have d4:=hZ i (Nd l n);obtain⟨q1,q2⟩:=ud T h0 I A;have e4:0<=N4 l n i:=ft _ D;have e5:N4 l n i<aW l:=dA _ hs;refine OD ?_;intros;rw[a5,BZ A];refine Y.cr (xc n l[i]!.2.2 (aW l) h0 Q D D hs D (by have:=q2;unfold Nd at this;omega)) ?_;rw[show n*l[i]!.2.2 / aW l=Nd l n i from rfl,show n*l[i]!.2.2 % aW l=N4 l n i from rfl];refine OD ?_;intros;have h3:(iy l.length i (λk:Nat=>(k:Int))).set i (i:Int)=iy l.length (i+1) (λk:Nat=>(k:Int)):=nX _ A;rw[a5,nX (Nd l n) A,nX (N4 l n) A,h3];refine⟨i+1,D,D,?_,by exact aj⟩;rw[d4,show n - (dL i (Nd l n)+Nd l n i)=n - dL i (Nd l n) - Nd l n i by omega,bJ i];exact aG
 rintro _ _;obtain⟨c1,e1⟩:=we (n:=n) T c3;haveI:Inhabited (Fin l.length):=⟨⟨0,a9⟩⟩
 have d2:((List.range l.length).map (N4 l n)).length=l.length:=by simp
 have d0:(List.range l.length).map (λk:Nat=>(k:Int))=(List.finRange l.length).map (λi:Fin l.length=>(i.val:Int)):=by
  rw[<-qX,cu];rfl
 have b9:(List.finRange l.length).length=l.length:=by simp
 rw[d0];refine Β.cM (Ε:=μ (λx:Fin l.length=>[Value.int .i64 (x.val:Int)]) 1 C3 (some ⟨bo,0,none⟩) l.length (List.finRange l.length)::τ rN 1 (some ⟨bv,0,none⟩) [⟨some ⟨br,0,none⟩,((List.range l.length).map (N4 l n)).length,l.length⟩]::τ (eU .u64) 1 (some ⟨br,0,none⟩) ((List.range l.length).map (N4 l n))::μ (eU .i64) 1 C3 (some ⟨bp,0,none⟩) l.length ((List.range l.length).map (Nd l n))::L) ?_ ?_
 .refine(E.RI (some ⟨br,0,none⟩)).trans ?_;refine(E.at (Φ:=obj bv Dr [ae (some ⟨br,0,none⟩) l.length l.length]) (E.d9 (Η:=rN) (sz:=1) (G:=[⟨some ⟨br,0,none⟩,((List.range l.length).map (N4 l n)).length,l.length⟩]) (by rw[d2];rfl) rfl (λ_ _=>rfl) cg)).trans ?_;refine(E.RI (some ⟨bv,0,none⟩)).trans ?_;refine(E.at (Φ:=μ (eU .i64) 1 C3 (some ⟨bo,0,none⟩) l.length ((List.finRange l.length).map (λi:Fin l.length=>(i.val:Int)))) (E.n9 (f:=λi:Fin l.length=>(i.val:Int)) (Η:=eU .i64))).trans ?_;show E (μ (λx:Fin l.length=>[Value.int .i64 (x.val:Int)]) 1 C3 (some ⟨bo,0,none⟩) l.length (List.finRange l.length)::_) _;exact aj
 refine OD ?_;intros;have a3:=xU (ζ:=C3) (cap:=(List.finRange l.length).length) (ad:=some ⟨bo,0,none⟩) (Η:=λi:Fin l.length=>Value.int .i64 (i.val:Int)) (by intro x;rfl) (G:=List.finRange l.length) (Lc:=[τ rN 1 (some ⟨bv,0,none⟩) [⟨some ⟨br,0,none⟩,((List.range l.length).map (N4 l n)).length,l.length⟩],τ (eU .u64) 1 (some ⟨br,0,none⟩) ((List.range l.length).map (N4 l n))]) (g:=322) (cb:=#[ay bv]) (xr (N4 l n) l.length) (FG _ _) Y0.1 vA (λx y=>AC bv (some ⟨br,0,none⟩) l.length ((List.range l.length).map (N4 l n)) x.val y.val D D D) D;rw[b9] at a3;(first|refine Y.ef (Ef.call (a3) rfl fT) ac ?_);rintro _ _⟨_,⟨rfl,ys,⟨b4,b5⟩,rfl⟩,hL⟩;simp only[aq,av] at hL;subst hL
 have a2:(ys.map (λi=>i.val)).Perm (List.range l.length):=by
  rw[<-qX];exact b4.map _
 have a4:(ys.map (λi=>i.val)).Pairwise (SS (N4 l n)):=by
  refine yh a2 ?_;rw[List.pairwise_map];refine b5.imp ?_;intro a b b6;rw[pj] at b6;omega
 obtain⟨o,ho⟩:∃o,o=ys.map (λi=>i.val):=⟨_,rfl⟩;rw[<-ho] at a2 a4;have c4:o.length=l.length:=by have:=a2.length_eq;simpa using this
 have Xl:(o.map (λk:Nat=>(k:Int))).length=l.length:=by simpa using c4
 have c6:∀i,i<o.length->(o.map (λk:Nat=>(k:Int)))[i]! = (o[i]! : Int):=ah;have c5:∀i,i<o.length->o[i]! < l.length:=ah;refine Y.cM (Ε:=μ (eU .i64) 1 C3 (some ⟨bo,0,none⟩) l.length (o.map (λk:Nat=>(k:Int)))::μ (eU .i64) 1 C3 (some ⟨bp,0,none⟩) l.length ((List.range l.length).map (Nd l n))::L) ?_ ?_
 .have e:ys.map (λi:Fin l.length=>(i.val:Int))=o.map (λk:Nat=>(k:Int)):=by rw[ho,cu];rfl
  rw[<-e];refine(show E _ (μ (eU .i64) 1 C3 (some ⟨bo,0,none⟩) l.length (ys.map (λi:Fin l.length=>(i.val:Int)))::_) from E.n7 (f:=λi:Fin l.length=>(i.val:Int)) (Η:=eU .i64)).trans ?_;exact aj
 clear b5 b4 ho ys;refine OD ?_;intros
 refine Β.loop (α:=Nat) (λi=>(i:Int)<=iS l n) (λi=>[(9,ae (some ⟨bp,0,none⟩) l.length l.length),(11,ae (some ⟨bo,0,none⟩) l.length l.length),(85,K (iS l n)),(86,K (i:Int))])
  (λi=>μ (eU .i64) 1 C3 (some ⟨bo,0,none⟩) l.length (o.map (λk:Nat=>(k:Int)))::μ (eU .i64) 1 C3 (some ⟨bp,0,none⟩) l.length ((List.range l.length).map (λk=>Nd l n k+if k∈o.take i then 1 else 0))::L) (λi=>(iS l n).toNat - i) 0 c1 aG ?_ ?_
 .have e:(List.range l.length).map (λk=>Nd l n k+if k∈o.take 0 then 1 else 0)=(List.range l.length).map (Nd l n):=aU ah;rw[e];exact aj
 intro i hi;by_cases A:(i:Int)<iS l n
 case neg =>
  have e:(List.range l.length).map (λk=>Nd l n k+if k∈o.take i then 1 else 0)=(List.range l.length).map (PR l n):=by
   apply aU;intro k hk;have c0:=List.mem_range.1 hk;unfold PR;rw[xY];congr 1;have h3:=lI a2 a4 (m:=i) c0;by_cases h4:kR (N4 l n) l.length k<i
   .grind
   .grind
  rw[e];refine OD ?_;intros;exact KX.en ⟨some ⟨bp,0,none⟩,l.length,rfl,rfl⟩
 have a5:(i:Int).toNat=i:=D;have a6:i<o.length:=D;have J:=c5 i a6;have e3:((List.range l.length).map (λk=>Nd l n k+if k∈o.take i then 1 else 0)).length=l.length:=by simp
 have d1:((List.range l.length).map (λk=>Nd l n k+if k∈o.take i then 1 else 0))[o[i]!]! = Nd l n o[i]!:=by
  rw[qf J,Ο,ed];intro b1;have h3:=(lI a2 a4 J).1 b1;rw[E7 a6,oG a2 a4 a6] at h3;omega
 obtain⟨q1,q2⟩:=ud T h0 I J;have b0:=T _ (bI J);unfold a0 at b0;refine OD ?_;intros;rw[a5,c6 i a6];have b3:((o[i]! : Nat):Int).toNat=o[i]!:=D;refine OD ?_;intros;rw[b3,d1];refine OD ?_;intros
 have e:((List.range l.length).map (λk=>Nd l n k+if k∈o.take i then 1 else 0)).set o[i]! (Nd l n o[i]! + 1)=(List.range l.length).map (λk=>Nd l n k+if k∈o.take (i+1) then 1 else 0):=by
  apply eX
  .simp
  .intro k h3 h4;have hk:k<l.length:=by simpa using h4
   rw[List.getElem_set];simp only[eW,List.getElem_range];have m1:=lI a2 a4 (m:=i) hk;have m2:=lI a2 a4 (m:=i+1) hk;by_cases h5:o[i]! = k
   .grind [oG]
   .rw[Ο h5];congr 1
    have h6:kR (N4 l n) l.length k≠i:=by
     intro h7;refine h5 (Lz (R:=N4 l n) J hk ?_);rw[h7,E7 a6];exact oG a2 a4 a6
    grind
 rw[b3,e];refine⟨i+1,D,D,?_,by exact aj⟩;rw[bJ i];exact aG
