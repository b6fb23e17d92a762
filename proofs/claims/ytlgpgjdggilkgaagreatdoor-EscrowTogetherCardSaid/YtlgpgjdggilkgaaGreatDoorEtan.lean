/- Lemmas. -/
import Derived.Shelf.SlGeneric
import Derived.Shelf.SlLaysF
import Derived.Shelf.SlLaysF0
import Derived.Ground.SlsfProg
import Derived.Test.YtlgpgjdggilkgaaGreatDoorEtam
set_option linter.all false
set_option maxHeartbeats 2000000
namespace Go.Proofs
open Go.Shelf
def Tryz.Xy:Go.Shelf.Ren:=⟨λ|6=>321|15=>121|14=>330|28=>181|29=>182|20=>335|21=>336|22=>337|23=>338|24=>339|25=>340|26=>341|27=>342|46=>344|47=>256|48=>257|49=>345|50=>346|57=>347|n=>n,λ|22=>22|24=>3|25=>23|3=>3|39=>61|0=>0|53=>291|55=>293|4=>4|46=>285|45=>284|50=>206|5=>5|9=>9|66=>348|70=>352|76=>380|77=>381|n=>n,λ|n=>n⟩
def Tryz.Xz:Go.Proofs.SlLaysF.n6 Tryz.prog Tryz.Xy:={
 mixed:=by kernel_rfl
 f6:=⟨Tryz.f321.name,by decide,Tryz.func321.trans (congrArg some (by kernel_rfl))⟩
 f14:=⟨Tryz.f330.name,by decide,Tryz.func330.trans (congrArg some (by kernel_rfl))⟩
 f15:=Tryz.func121.trans (congrArg some (by kernel_rfl))
 f20:=⟨Tryz.f335.name,by decide,Tryz.func335.trans (congrArg some (by kernel_rfl))⟩
 f21:=⟨Tryz.f336.name,by decide,Tryz.func336.trans (congrArg some (by kernel_rfl))⟩
 f22:=⟨Tryz.f337.name,by decide,Tryz.func337.trans (congrArg some (by kernel_rfl))⟩
 f23:=⟨Tryz.f338.name,by decide,Tryz.func338.trans (congrArg some (by kernel_rfl))⟩
 f24:=⟨Tryz.f339.name,by decide,Tryz.func339.trans (congrArg some (by kernel_rfl))⟩
 f25:=⟨Tryz.f340.name,by decide,Tryz.func340.trans (congrArg some (by kernel_rfl))⟩
 f26:=⟨Tryz.f341.name,by decide,Tryz.func341.trans (congrArg some (by kernel_rfl))⟩
 f27:=⟨Tryz.f342.name,by decide,Tryz.func342.trans (congrArg some (by kernel_rfl))⟩
 f28:=Tryz.func181.trans (congrArg some (by kernel_rfl))
 f29:=Tryz.func182.trans (congrArg some (by kernel_rfl))
 f46:=⟨Tryz.f344.name,by decide,Tryz.func344.trans (congrArg some (by kernel_rfl))⟩
 f47:=Tryz.func256.trans (congrArg some (by kernel_rfl))
 f48:=Tryz.func257.trans (congrArg some (by kernel_rfl))
 f49:=⟨Tryz.f345.name,by decide,Tryz.func345.trans (congrArg some (by kernel_rfl))⟩
 f50:=⟨Tryz.f346.name,by decide,Tryz.func346.trans (congrArg some (by kernel_rfl))⟩
 f57:=⟨Tryz.f347.name,by decide,Tryz.func347.trans (congrArg some (by kernel_rfl))⟩
 t0:=Tryz.underlying0
 a0:=Tryz.isAgg0
 z0:=Tryz.sizeOf0
 v0:=Tryz.zeroValue0
 t3:=Tryz.underlying3
 a3:=Tryz.isAgg3
 z3:=Tryz.sizeOf3
 v3:=Tryz.zeroValue3
 t4:=Tryz.underlying4
 a4:=Tryz.isAgg4
 z4:=Tryz.sizeOf4
 v4:=Tryz.zeroValue4
 t5:=Tryz.underlying5
 a5:=Tryz.isAgg5
 z5:=Tryz.sizeOf5
 v5:=Tryz.zeroValue5
 t9:=Tryz.underlying9
 a9:=Tryz.isAgg9
 z9:=Tryz.sizeOf9
 v9:=Tryz.zeroValue9
 t22:=Tryz.underlying22
 a22:=Tryz.isAgg22
 z22:=Tryz.sizeOf22
 v22:=Tryz.zeroValue22
 a24:=Tryz.isAgg3
 z24:=Tryz.sizeOf3
 t25:=Tryz.underlying23
 a25:=Tryz.isAgg23
 z25:=Tryz.sizeOf23
 v25:=Tryz.zeroValue23
 t39:=Tryz.underlying61
 a39:=Tryz.isAgg61
 z39:=Tryz.sizeOf61
 v39:=Tryz.zeroValue61
 t45:=Tryz.underlying284
 a45:=Tryz.isAgg284
 z45:=Tryz.sizeOf284
 v45:=Tryz.zeroValue284
 t46:=Tryz.underlying285
 a46:=Tryz.isAgg285
 z46:=Tryz.sizeOf285
 v46:=Tryz.zeroValue285
 t50:=Tryz.underlying206
 a50:=Tryz.isAgg206
 z50:=Tryz.sizeOf206
 v50:=Tryz.zeroValue206
 t53:=Tryz.underlying291
 a53:=Tryz.isAgg291
 z53:=Tryz.sizeOf291
 v53:=Tryz.zeroValue291
 t55:=Tryz.underlying293
 a55:=Tryz.isAgg293
 z55:=Tryz.sizeOf293
 v55:=Tryz.zeroValue293
 t66:=Tryz.underlying348
 a66:=Tryz.isAgg348
 z66:=Tryz.sizeOf348
 v66:=Tryz.zeroValue348
 t70:=Tryz.underlying352
 a70:=Tryz.isAgg352
 z70:=Tryz.sizeOf352
 v70:=Tryz.zeroValue352
 t76:=Tryz.underlying380
 a76:=Tryz.isAgg380
 z76:=Tryz.sizeOf380
 v76:=Tryz.zeroValue380
 t77:=Tryz.underlying381
 a77:=Tryz.isAgg381
 z77:=Tryz.sizeOf381
 v77:=Tryz.zeroValue381 }
def Tryz.XA:Go.Shelf.Ren:=⟨λ|6=>59|15=>121|14=>120|28=>181|29=>182|20=>173|21=>174|22=>175|23=>176|24=>177|25=>178|26=>179|27=>180|46=>255|47=>256|48=>257|49=>258|50=>259|57=>295|n=>n,λ|22=>56|24=>73|25=>140|3=>3|39=>61|0=>0|53=>291|55=>293|4=>4|46=>285|45=>284|50=>206|5=>5|9=>9|66=>348|70=>352|76=>380|77=>381|n=>n,λ|n=>n⟩
def Tryz.Zq:Go.Proofs.SlLaysF0.n6 Tryz.prog Tryz.XA:={
 mixed:=by kernel_rfl
 f6:=⟨Tryz.f59.name,by decide,Tryz.func59.trans (congrArg some (by kernel_rfl))⟩
 f14:=⟨Tryz.f120.name,by decide,Tryz.func120.trans (congrArg some (by kernel_rfl))⟩
 f15:=Tryz.func121.trans (congrArg some (by kernel_rfl))
 f20:=⟨Tryz.f173.name,by decide,Tryz.func173.trans (congrArg some (by kernel_rfl))⟩
 f21:=⟨Tryz.f174.name,by decide,Tryz.func174.trans (congrArg some (by kernel_rfl))⟩
 f22:=⟨Tryz.f175.name,by decide,Tryz.func175.trans (congrArg some (by kernel_rfl))⟩
 f23:=⟨Tryz.f176.name,by decide,Tryz.func176.trans (congrArg some (by kernel_rfl))⟩
 f24:=⟨Tryz.f177.name,by decide,Tryz.func177.trans (congrArg some (by kernel_rfl))⟩
 f25:=⟨Tryz.f178.name,by decide,Tryz.func178.trans (congrArg some (by kernel_rfl))⟩
 f26:=⟨Tryz.f179.name,by decide,Tryz.func179.trans (congrArg some (by kernel_rfl))⟩
 f27:=⟨Tryz.f180.name,by decide,Tryz.func180.trans (congrArg some (by kernel_rfl))⟩
 f28:=Tryz.func181.trans (congrArg some (by kernel_rfl))
 f29:=Tryz.func182.trans (congrArg some (by kernel_rfl))
 f46:=⟨Tryz.f255.name,by decide,Tryz.func255.trans (congrArg some (by kernel_rfl))⟩
 f47:=Tryz.func256.trans (congrArg some (by kernel_rfl))
 f48:=Tryz.func257.trans (congrArg some (by kernel_rfl))
 f49:=⟨Tryz.f258.name,by decide,Tryz.func258.trans (congrArg some (by kernel_rfl))⟩
 f50:=⟨Tryz.f259.name,by decide,Tryz.func259.trans (congrArg some (by kernel_rfl))⟩
 f57:=⟨Tryz.f295.name,by decide,Tryz.func295.trans (congrArg some (by kernel_rfl))⟩
 t0:=Tryz.underlying0
 a0:=Tryz.isAgg0
 z0:=Tryz.sizeOf0
 v0:=Tryz.zeroValue0
 t3:=Tryz.underlying3
 a3:=Tryz.isAgg3
 z3:=Tryz.sizeOf3
 v3:=Tryz.zeroValue3
 t4:=Tryz.underlying4
 a4:=Tryz.isAgg4
 z4:=Tryz.sizeOf4
 v4:=Tryz.zeroValue4
 t5:=Tryz.underlying5
 a5:=Tryz.isAgg5
 z5:=Tryz.sizeOf5
 v5:=Tryz.zeroValue5
 t9:=Tryz.underlying9
 a9:=Tryz.isAgg9
 z9:=Tryz.sizeOf9
 v9:=Tryz.zeroValue9
 t22:=Tryz.underlying56
 a22:=Tryz.isAgg56
 z22:=Tryz.sizeOf56
 v22:=Tryz.zeroValue56
 t25:=Tryz.underlying140
 a25:=Tryz.isAgg140
 z25:=Tryz.sizeOf140
 v25:=Tryz.zeroValue140
 t39:=Tryz.underlying61
 a39:=Tryz.isAgg61
 z39:=Tryz.sizeOf61
 v39:=Tryz.zeroValue61
 t45:=Tryz.underlying284
 a45:=Tryz.isAgg284
 z45:=Tryz.sizeOf284
 v45:=Tryz.zeroValue284
 t46:=Tryz.underlying285
 a46:=Tryz.isAgg285
 z46:=Tryz.sizeOf285
 v46:=Tryz.zeroValue285
 t50:=Tryz.underlying206
 a50:=Tryz.isAgg206
 z50:=Tryz.sizeOf206
 v50:=Tryz.zeroValue206
 t53:=Tryz.underlying291
 a53:=Tryz.isAgg291
 z53:=Tryz.sizeOf291
 v53:=Tryz.zeroValue291
 t55:=Tryz.underlying293
 a55:=Tryz.isAgg293
 z55:=Tryz.sizeOf293
 v55:=Tryz.zeroValue293
 t66:=Tryz.underlying348
 a66:=Tryz.isAgg348
 z66:=Tryz.sizeOf348
 v66:=Tryz.zeroValue348
 t70:=Tryz.underlying352
 a70:=Tryz.isAgg352
 z70:=Tryz.sizeOf352
 v70:=Tryz.zeroValue352
 t76:=Tryz.underlying380
 a76:=Tryz.isAgg380
 z76:=Tryz.sizeOf380
 v76:=Tryz.zeroValue380
 t77:=Tryz.underlying381
 a77:=Tryz.isAgg381
 z77:=Tryz.sizeOf381
 v77:=Tryz.zeroValue381 }
def Tryz.XB:Go.Shelf.Ren:=⟨λ|6=>117|15=>121|14=>170|28=>181|29=>182|20=>247|21=>248|22=>249|23=>250|24=>251|25=>252|26=>253|27=>254|46=>292|47=>256|48=>257|49=>293|50=>294|57=>309|n=>n,λ|22=>35|24=>47|25=>225|3=>3|39=>61|0=>0|53=>291|55=>293|4=>4|46=>285|45=>284|50=>206|5=>5|9=>9|66=>348|70=>352|76=>380|77=>381|n=>n,λ|n=>n⟩
def Tryz.Zr:Go.Proofs.SlLaysF0.n6 Tryz.prog Tryz.XB:={
 mixed:=by kernel_rfl
 f6:=⟨Tryz.f117.name,by decide,Tryz.func117.trans (congrArg some (by kernel_rfl))⟩
 f14:=⟨Tryz.f170.name,by decide,Tryz.func170.trans (congrArg some (by kernel_rfl))⟩
 f15:=Tryz.func121.trans (congrArg some (by kernel_rfl))
 f20:=⟨Tryz.f247.name,by decide,Tryz.func247.trans (congrArg some (by kernel_rfl))⟩
 f21:=⟨Tryz.f248.name,by decide,Tryz.func248.trans (congrArg some (by kernel_rfl))⟩
 f22:=⟨Tryz.f249.name,by decide,Tryz.func249.trans (congrArg some (by kernel_rfl))⟩
 f23:=⟨Tryz.f250.name,by decide,Tryz.func250.trans (congrArg some (by kernel_rfl))⟩
 f24:=⟨Tryz.f251.name,by decide,Tryz.func251.trans (congrArg some (by kernel_rfl))⟩
 f25:=⟨Tryz.f252.name,by decide,Tryz.func252.trans (congrArg some (by kernel_rfl))⟩
 f26:=⟨Tryz.f253.name,by decide,Tryz.func253.trans (congrArg some (by kernel_rfl))⟩
 f27:=⟨Tryz.f254.name,by decide,Tryz.func254.trans (congrArg some (by kernel_rfl))⟩
 f28:=Tryz.func181.trans (congrArg some (by kernel_rfl))
 f29:=Tryz.func182.trans (congrArg some (by kernel_rfl))
 f46:=⟨Tryz.f292.name,by decide,Tryz.func292.trans (congrArg some (by kernel_rfl))⟩
 f47:=Tryz.func256.trans (congrArg some (by kernel_rfl))
 f48:=Tryz.func257.trans (congrArg some (by kernel_rfl))
 f49:=⟨Tryz.f293.name,by decide,Tryz.func293.trans (congrArg some (by kernel_rfl))⟩
 f50:=⟨Tryz.f294.name,by decide,Tryz.func294.trans (congrArg some (by kernel_rfl))⟩
 f57:=⟨Tryz.f309.name,by decide,Tryz.func309.trans (congrArg some (by kernel_rfl))⟩
 t0:=Tryz.underlying0
 a0:=Tryz.isAgg0
 z0:=Tryz.sizeOf0
 v0:=Tryz.zeroValue0
 t3:=Tryz.underlying3
 a3:=Tryz.isAgg3
 z3:=Tryz.sizeOf3
 v3:=Tryz.zeroValue3
 t4:=Tryz.underlying4
 a4:=Tryz.isAgg4
 z4:=Tryz.sizeOf4
 v4:=Tryz.zeroValue4
 t5:=Tryz.underlying5
 a5:=Tryz.isAgg5
 z5:=Tryz.sizeOf5
 v5:=Tryz.zeroValue5
 t9:=Tryz.underlying9
 a9:=Tryz.isAgg9
 z9:=Tryz.sizeOf9
 v9:=Tryz.zeroValue9
 t22:=Tryz.underlying35
 a22:=Tryz.isAgg35
 z22:=Tryz.sizeOf35
 v22:=Tryz.zeroValue35
 t25:=Tryz.underlying225
 a25:=Tryz.isAgg225
 z25:=Tryz.sizeOf225
 v25:=Tryz.zeroValue225
 t39:=Tryz.underlying61
 a39:=Tryz.isAgg61
 z39:=Tryz.sizeOf61
 v39:=Tryz.zeroValue61
 t45:=Tryz.underlying284
 a45:=Tryz.isAgg284
 z45:=Tryz.sizeOf284
 v45:=Tryz.zeroValue284
 t46:=Tryz.underlying285
 a46:=Tryz.isAgg285
 z46:=Tryz.sizeOf285
 v46:=Tryz.zeroValue285
 t50:=Tryz.underlying206
 a50:=Tryz.isAgg206
 z50:=Tryz.sizeOf206
 v50:=Tryz.zeroValue206
 t53:=Tryz.underlying291
 a53:=Tryz.isAgg291
 z53:=Tryz.sizeOf291
 v53:=Tryz.zeroValue291
 t55:=Tryz.underlying293
 a55:=Tryz.isAgg293
 z55:=Tryz.sizeOf293
 v55:=Tryz.zeroValue293
 t66:=Tryz.underlying348
 a66:=Tryz.isAgg348
 z66:=Tryz.sizeOf348
 v66:=Tryz.zeroValue348
 t70:=Tryz.underlying352
 a70:=Tryz.isAgg352
 z70:=Tryz.sizeOf352
 v70:=Tryz.zeroValue352
 t76:=Tryz.underlying380
 a76:=Tryz.isAgg380
 z76:=Tryz.sizeOf380
 v76:=Tryz.zeroValue380
 t77:=Tryz.underlying381
 a77:=Tryz.isAgg381
 z77:=Tryz.sizeOf381
 v77:=Tryz.zeroValue381 }
end Go.Proofs
namespace Go.Proofs.YtlgpgjdggilkgaaGreatDoor
section
open Go.V
attribute [local irreducible] Α GO GP δ ms Ev Ef C0 F CB GB Enters
def PD(a b:Int):Int:=if a<b then -1 else if b<a then 1 else 0
def jE{φ ψ:Prop}(k:ψ)(h:Hid ψ->φ:=by intro k;first|refine GO.ci (f:=122) (Hid.out k)|refine δ.ci (f:=122) (Hid.out k)|refine GO.cf (f:=122) rfl (Hid.out k)|refine δ.cf (f:=122) rfl (Hid.out k)|refine KX.Sz (Hid.out k)):φ:=h ⟨k⟩
def kr{L:Η}(a b:Int):Τ Tryz.prog 62 #[J a,J b] L (F3 (J (PD a b)) L):=by
 refine Τ.bd ?_;unfold PD;by_cases K:a<b
 .rw[Χ K];repeat first|refine ab ?_|intro _|refine jE ?_
  exact KX.en ⟨rfl,rfl⟩
 rw[Ν K];by_cases T:b<a
 .rw[Χ T];repeat first|refine ab ?_|intro _|refine jE ?_
  exact KX.en ⟨rfl,rfl⟩
 rw[Ν T];repeat first|refine ab ?_|intro _|refine jE ?_
 exact KX.en ⟨rfl,rfl⟩
def jD{φ ψ:Prop}(k:ψ)(h:Hid ψ->φ:=by intro k;first|refine GO.ci (f:=331) (Hid.out k)|refine δ.ci (f:=331) (Hid.out k)|refine GO.cf (f:=331) rfl (Hid.out k)|refine δ.cf (f:=331) rfl (Hid.out k)|refine KX.Sz (Hid.out k)):φ:=h ⟨k⟩
def HD{L:Η}(a b:Int):Τ Tryz.prog 323 #[.int .u64 a,.int .u64 b] L (F3 (J (PD a b)) L):=by
 refine Τ.bd ?_;unfold PD;by_cases K:a<b
 .rw[Χ K];repeat first|refine ab ?_|intro _|refine jD ?_
  exact KX.en ⟨rfl,rfl⟩
 rw[Ν K];by_cases T:b<a
 .rw[Χ T];repeat first|refine ab ?_|intro _|refine jD ?_
  exact KX.en ⟨rfl,rfl⟩
 rw[Ν T];repeat first|refine ab ?_|intro _|refine jD ?_
 exact KX.en ⟨rfl,rfl⟩
def UR(a b:Int):Int:=if a=0 then b else a
def pJ{L:Η}(ad:OA)(c:Nat)(a b:Int)[F2 L ad Int (dJ .i64) 1 [a,b]]:Τ Tryz.prog 61 #[ah ad 2 c] L (F3 (J (UR a b)) L):=by
 have U:([a,b]:List Int).length=2:=rfl;have h0:([a,b]:List Int)[(0:Int).toNat]! = a:=rfl;have K:([a,b]:List Int)[((0:Int)+1).toNat]! = b:=rfl;unfold UR;refine Τ.bd ?_;refine Nd ?_;intros;refine Α.d9 3 (GR.step ?_);refine Nd ?_;intros;rw[h0];by_cases ha:a=0
 case neg =>
  rw[Ν ha];refine Nd ?_;intros;exact KX.en ⟨rfl,rfl⟩
 rw[Χ ha];refine Nd ?_;intros;refine GR.step ?_;refine Nd ?_;intros;rw[K];by_cases hb:b=0
 case neg =>
  refine Nd ?_;intros;exact KX.en ⟨rfl,rfl⟩
 refine Nd ?_;intros;refine GR.step ?_;refine Nd ?_;intros;exact KX.a8 aF (F.refl _) ⟨by rw[hb];rfl,rfl⟩
def kg(n:Int):Prop:=0<=n/\n<=1099511627776
instance:DecidablePred kg:=λn=>by unfold kg;infer_instance
def mo{L:Η}(n:Int):Τ Tryz.prog 319 #[J n] L (F3 (.bool (dB (kg n))) L):=by
 refine Τ.bd ?_;by_cases K:0<=n
 .by_cases T:n<=1099511627776
  .refine Nd ?_;intros;exact KX.a8 aF (F.refl _) ⟨by rw[bN T,bN (show kg n from⟨K,T⟩)];rfl,rfl⟩
  .refine Nd ?_;intros;exact KX.a8 aF (F.refl _) ⟨by rw[bB T,bB (λh:kg n=>T h.2)];rfl,rfl⟩
 .refine Nd ?_;intros;exact KX.a8 aF (F.refl _) ⟨by rw[bB (λh:kg n=>K h.1)];rfl,rfl⟩
def me(n:Int):Prop:=0<=n/\n<=1152921504606846976
instance:DecidablePred me:=λn=>by unfold me;infer_instance
def qO{L:Η}(n:Int):Τ Tryz.prog 327 #[J n] L (F3 (.bool (dB (me n))) L):=by
 refine Τ.bd ?_;by_cases K:0<=n
 .by_cases T:n<=1152921504606846976
  .refine Nd ?_;intros;exact KX.a8 aF (F.refl _) ⟨by rw[bN T,bN (show me n from⟨K,T⟩)];rfl,rfl⟩
  .refine Nd ?_;intros;exact KX.a8 aF (F.refl _) ⟨by rw[bB T,bB (λh:me n=>T h.2)];rfl,rfl⟩
 .refine Nd ?_;intros;exact KX.a8 aF (F.refl _) ⟨by rw[bB (λh:me n=>K h.1)];rfl,rfl⟩
theorem xZ{L:Η}(B num M:Nat)(K:B<=1099511627776)(T:num<=1152921504606846976)(h3:M<=1152921504606846976)(h0:0<M)(hq:B*num / M<=1099511627776) :
  Τ Tryz.prog 320 #[J (B:Int),J (num:Int),J (M:Int)] L (F3 (.tuple #[.int .u64 ((B*num / M:Nat):Int),.int .u64 ((B*num % M:Nat):Int),J 0]) L):=by
 have e:=fO (B*num) 18446744073709551616;rw[Nat.mul_comm] at e
 have a2:B*num / 18446744073709551616<M:=by
  rw[fu ae];have h4:=Nat.lt_div_mul_add (a:=B*num) h0;have h5:B*num / M*M<=1099511627776*M:=bR _ hq;omega
 have a3:=dX (B*num) (show 0<18446744073709551616 by decide);refine Τ.bd ?_;refine Nd ?_;intros;refine GO.ca (mo (B:Int)) ?_;rintro _ L ⟨rfl,rfl⟩;rw[bN (show kg (B:Int) from⟨D,D⟩)];refine Nd ?_;intros;refine GO.ca (qO (num:Int)) ?_;rintro _ L ⟨rfl,rfl⟩;rw[bN (show me (num:Int) from⟨D,D⟩)];refine Nd ?_;intros;refine GO.ca (qO (M:Int)) ?_;rintro _ L ⟨rfl,rfl⟩;rw[bN (show me (M:Int) from⟨D,D⟩)];refine Nd ?_;intros;refine GO.ca (EH B num D D) ?_;rintro _ L ⟨rfl,rfl⟩;refine Nd ?_;intros;refine GO.ca (Fe (B*num / 18446744073709551616) (B*num % 18446744073709551616) M a2 a3 D) ?_;rintro _ L ⟨rfl,rfl⟩;rw[e];refine Nd ?_;intros;exact KX.en ⟨rfl,rfl⟩
def iv(n i:Nat)(f:Nat->Int):List Int:=(List.range n).map (λk=>if k<i then f k else 0)
def od(n i:Nat)(f:Nat->Int):(iv n i f).length=n:=by simp[iv]
def mK(n:Nat)(f:Nat->Int):iv n 0 f=List.replicate n 0:=by
 apply eX
 .simp[iv]
 .intro i K T;simp[iv]
theorem oc{n i:Nat}(f:Nat->Int)(h:i<n):(iv n i f).set i (f i)=iv n (i+1) f:=by
 apply eX
 .simp[iv]
 grind [iv]
theorem oe(n:Nat)(f:Nat->Int):iv n n f=(List.range n).map f:=by
 apply aV;grind
def VT(rs:List Int)(i j:Nat):Int:=UR (PD rs[j]! rs[i]!) (PD i j)
theorem Kr(rs:List Int)(i j:Nat):VT rs i j<0↔rs[j]! < rs[i]!\/(rs[j]! = rs[i]!/\i<j):=by
 grind [VT,UR,PD]
abbrev AO:=Zb [.ev 9,.ev 10,.ef 8,.ef 11,.ef 12,.ef 13,.ev 14]
def OQ{φ ψ:Prop}(k:ψ)(h:Hid ψ->φ:=by intro k;(repeat (first|refine ab ?_|intro B6|refine Α.dr 20 1 AO ?_));(repeat revert B6);exact Hid.out k):φ:=h ⟨k⟩
def AF(b:Nat)(ad:OA)(c:Nat)(rs:List Int)(i j:Nat)(hi:i<rs.length)(hj:j<rs.length)(U:rs.length<=1000000) :
  Τ Tryz.prog 322 #[J (i:Int),J (j:Int),av b] [ξ rM 1 (some ⟨b,0,none⟩) [⟨ad,rs.length,c⟩],ξ (dJ .u64) 1 ad rs] (λu _=>u=J (VT rs i j)):=by
 have B:(i:Int).toNat=i:=D;have M:(j:Int).toNat=j:=D;have a2:([⟨ad,rs.length,c⟩]:List SQ).length=1:=rfl;refine Τ.bd ?_;refine OQ ?_;intros;refine δ.Ob (Ev.k7 (Ε:=rM) (I:=[⟨ad,rs.length,c⟩]) (j:=0) (o:=0) rfl rfl cj ae (show _=some (ah ad rs.length c) from rfl)) ae ?_;refine OQ ?_;intros;refine δ.Ob (Ev.k7 (Ε:=rM) (I:=[⟨ad,rs.length,c⟩]) (j:=0) (o:=0) rfl rfl cj ae (show _=some (ah ad rs.length c) from rfl)) ae ?_;refine OQ ?_;intros;rw[B,M];refine δ.cr (HD rs[j]! rs[i]!) ?_;refine OQ ?_;intros;refine δ.cr (kr (i:Int) (j:Int)) ?_;refine OQ ?_;intros;rename_i b2;refine δ.cL (F.d9 (Ε:=dJ .i64) (sz:=1) (I:=[PD rs[j]! rs[i]!,PD (i:Int) (j:Int)]) rfl rfl (λ_ _=>rfl) cj) ?_;refine δ.cr (pJ (some ⟨b2,0,none⟩) 2 (PD rs[j]! rs[i]!) (PD (i:Int) (j:Int))) ?_;refine OQ ?_;intros;exact KX.a8 aF (F.refl _) rfl
end
section
open Go.V
attribute [local irreducible] Α GO GP δ ms Ev Ef C0 F CB GB V.Enters
def vw{α β:Type}{e1:α->τ}{e2:β->τ}{s1 s2:Nat}{M a2:OA}{x1:List α}{x2:List β}:∀ι h,M6 [ξ e1 s1 M x1,ξ e2 s2 a2 x2] ι h->M6 [ξ e1 s1 M x1,ξ e2 s2 a2 x2] ι Hp.emp:=by
 rintro ι h ⟨G6,E4,D4,a,b,c,Μ,e,Sw,h₃,h₄,a',b',c',d',e',f'⟩;exact⟨G6,Hp.emp,Hp.emp,a,Hp.c7 _,Hp.a8 _,Hp.a8 _,e,Sw,Hp.emp,Hp.emp,a',Hp.c7 _,Hp.a8 _,Hp.a8 _,e',trivial⟩
def TQ(l:ο):List Int:=l.map (λx=>x.2.2)
def Ka(l:ο):(TQ l).length=l.length:=by simp[TQ]
def Cd{l:ο}{k:Nat}(h:k<l.length):(TQ l)[k]! = l[k]!.2.2:=sU _ h
def ub{l:ο}{n:Int}(U:∀x∈l,a0 x)(h0:0<=n)(K:n<=aY l){k:Nat}(hk:k<l.length):0<=Nx l n k/\Nx l n k<=l[k]!.2.2:=by
 have hs:=lC U hk;have hw:=U _ (bA hk);unfold a0 at hw;refine⟨jd (Int.mul_nonneg h0 D) D,?_⟩;unfold Nx;refine Int.ediv_le_of_le_mul hs ?_;rw[Int.mul_comm];exact Int.mul_le_mul_of_nonneg_left K D
theorem wW{L:Η}(n w s:Int)(h0:0<=n)(K:n<=1099511627776)(T:0<=w)(h3:w<=1152921504606846976)(h4:0<s)(h5:s<=1152921504606846976)(hq:n*w / s<=1099511627776) :
  Τ Tryz.prog 320 #[J n,J w,J s] L (F3 (.tuple #[.int .u64 (n*w / s),.int .u64 (n*w % s),J 0]) L):=by
 obtain⟨nN,rfl⟩:∃nN:Nat,n=(nN:Int):=⟨n.toNat,D⟩;obtain⟨wN,rfl⟩:∃wN:Nat,w=(wN:Int):=⟨w.toNat,D⟩;obtain⟨sN,rfl⟩:∃sN:Nat,s=(sN:Int):=⟨s.toNat,D⟩;have e1:(nN:Int)*(wN:Int) / (sN:Int)=((nN*wN / sN:Nat):Int):=by rw[Int.natCast_ediv,Int.natCast_mul]
 grind [xZ]
def xR{η cap:Nat}{ad:OA}{α:Type}[Inhabited α]{Ε:α->Value}(K:OneCell Ε){I:List α}{Lc:Η}{g:Nat}{cb:Array Value}(cf:α->α->Int)(hO:Go.Sort.SWO (ltOf cf))(a2:V.Enters Tryz.prog g)(B:∀ι h,M6 Lc ι h->M6 Lc ι Hp.emp)(M:∀x y:α,Τ Tryz.prog g (#[Ε x,Ε y]++cb) Lc (λu _=>u=J (cf x y)))(a3:I.length<4611686018427387904) :
  Τ Tryz.prog 321 #[ah ad I.length cap,.func (.func g) #[] cb] (Ω (λx=>[Ε x]) 1 η ad cap I::Lc) (λv Γ=>v=.tuple #[]/\∃ys,gW cf I ys/\Γ = Ω (λx=>[Ε x]) 1 η ad cap ys::Lc) :=
 Τ.c8 (ρ:=Tryz.Xy) Tryz.Xz { Tryz.Xz with } K cf hO MU a2 B M a3
theorem qX(n:Nat):(List.finRange n).map (λi=>i.val)=List.range n:=by
 apply eX
 .simp
 grind
theorem qh{f:Nat->Int}{n k:Nat}(h:k<n):((List.range n).map f)[k]! = f k:=by
 grind
def xm(R:Nat->Int)(n:Nat)(i j:Fin n):Int:=VT ((List.range n).map R) i.val j.val
theorem pu(R:Nat->Int)(n:Nat)(i j:Fin n):xm R n i j<0↔R j.val<R i.val\/(R j.val=R i.val/\i.val<j.val):=by
 grind [xm,Kr]
theorem FK(R:Nat->Int)(n:Nat):Go.Sort.SWO (ltOf (xm R n)) where
 irrefl x:=by grind [ltOf,pu]
 trans x y z K T:=by grind [ltOf,pu]
 ntrans x y z K T:=by grind [ltOf,pu]
abbrev XC:Nat:=293
abbrev Du:Nat:=202
abbrev yo:=Zc [.ev 10,.ef 11,.ev 12,.ef 13,.ev 14,.ef 15]
def cn{φ ψ:Prop}(k:ψ)(h:Hid ψ->φ:=by intro k;(with_reducible apply Α.a8);first|refine Α.dr 100 23 yo (Hid.out k)):φ:=h ⟨k⟩
def OX{φ ψ:Prop}(k:ψ)(h:Hid ψ->φ:=by intro k;(repeat (first|refine ab ?_|intro B6|refine cn ?_));(repeat revert B6);exact Hid.out k):φ:=h ⟨k⟩
theorem Dy{L:Η}(ad:OA)(c:Nat)(l:ο)(n:Int)[hrd:F2 L ad Int (dJ .i64) 1 (TQ l)](e2:l.length<=4096)(U:∀x∈l,a0 x)(c3:l≠[])(h0:0<=n)(K:n<=aY l)(T:n<=1099511627776) :
  Τ Tryz.prog 312 #[J n,ah ad l.length c] L (λv Γ=>∃b2 a7,v=.tuple #[ah b2 l.length a7,J 0]/\Γ = Ω (dJ .i64) 1 B7 b2 a7 ((List.range l.length).map (Qe l n))::L):=by
 have a9:0<l.length:=aj;have e7:=Ka l;have hs:=lC U a9;have d3:=lD U l.length D;rw[nu] at d3;have hm:(l.length:Int)*1099511627776<=4096*1099511627776:=D;refine Τ.bd ?_;refine OX ?_;intros;refine GO.ca (mo n) ?_;rintro _ L ⟨rfl,rfl⟩;rw[bN (show kg n from⟨h0,T⟩)];repeat first|refine Α.sm 4 ?_|refine dA ?_|intro _|refine cn ?_
 refine Α.c7 (α:=Unit) (λ_=>True) (λ_=>[(0,J n),(1,ah ad l.length c),(6,J (aY l))]) (λ_=>L) ?_ ?_
 .refine OX ?_;intros;refine Α.loop (α:=Nat) (λi=>i<=l.length) (λi=>[(0,J n),(1,ah ad l.length c),(6,J (aY (l.take i))),(21,ah ad l.length c),(22,J l.length),(23,J (i:Int))]) (λ_=>L) (λi=>l.length - i) 0 D aD (F.refl _) ?_;intro i hi;by_cases B:i<l.length
  case neg =>
   have hin:i=l.length:=D;subst hin;rw[nu];refine OX ?_;intros;exact⟨(),trivial,aD,F.refl _⟩
  have a5:(i:Int).toNat=i:=D;have b0:=U _ (bA B);unfold a0 at b0;have b7:=lD U i D;have b8:=gA l B;have c2:(i:Int)*1099511627776<=4096*1099511627776:=D;refine OX ?_;intros;rw[a5,Cd B];refine GO.ca (mo l[i]!.2.2) ?_;rintro _ L ⟨rfl,rfl⟩;rw[bN (show kg l[i]!.2.2 from⟨D,D⟩)];refine OX ?_;intros;refine⟨i+1,D,D,?_,F.refl _⟩;rw[b8,bC i];exact aD
 rintro _ _;refine OX ?_;intros;refine GO.ef (Ef.makeSlice (dJ .i64) 0 rfl rfl rfl D D D) ae ?_;rintro _ _⟨bp,rfl,rfl⟩;rw[bD,<-mK l.length (Nx l n)];refine OX ?_;intros;refine GO.ef (Ef.makeSlice (dJ .u64) 0 rfl rfl rfl D D D) ae ?_;rintro _ _⟨br,rfl,rfl⟩;rw[bD,<-mK l.length (Ot l n)];refine OX ?_;intros;rename_i bv;refine GO.ef (Ef.makeSlice (dJ .i64) 0 rfl rfl rfl D D D) ae ?_;rintro _ _⟨bo,rfl,rfl⟩;rw[bD,<-mK l.length (λk:Nat=>(k:Int))];repeat first|refine Α.sm 19 ?_|refine dA ?_|intro _|refine cn ?_
 refine Α.c7 (α:=Unit) (λ_=>True) (λ_=>[(9,ah (some ⟨bp,0,none⟩) l.length l.length),(10,av bv),(11,ah (some ⟨bo,0,none⟩) l.length l.length),(12,J (iS l n))])
  (λ_=>Ω (dJ .i64) 1 B7 (some ⟨bp,0,none⟩) l.length ((List.range l.length).map (Nx l n))::obj bv Du [ah (some ⟨br,0,none⟩) l.length l.length]::Ω (dJ .u64) 1 XC (some ⟨br,0,none⟩) l.length ((List.range l.length).map (Ot l n))::Ω (dJ .i64) 1 B7 (some ⟨bo,0,none⟩) l.length ((List.range l.length).map (λk:Nat=>(k:Int)))::L) ?_ ?_
 .refine OX ?_;intros
  refine Α.loop (α:=Nat) (λi=>i<=l.length) (λi=>[(0,J n),(1,ah ad l.length c),(6,J (aY l)),(9,ah (some ⟨bp,0,none⟩) l.length l.length),(10,av bv),(11,ah (some ⟨bo,0,none⟩) l.length l.length),(12,J (n - dN i (Nx l n))),(49,J l.length),(50,J (i:Int))])
   (λi=>Ω (dJ .i64) 1 B7 (some ⟨bp,0,none⟩) l.length (iv l.length i (Nx l n))::obj bv Du [ah (some ⟨br,0,none⟩) l.length l.length]::Ω (dJ .u64) 1 XC (some ⟨br,0,none⟩) l.length (iv l.length i (Ot l n))::Ω (dJ .i64) 1 B7 (some ⟨bo,0,none⟩) l.length (iv l.length i (λk:Nat=>(k:Int)))::L) (λi=>l.length - i) 0 D ?_ ak ?_
  .rw[mC,Int.sub_zero];exact aD
  intro i hi;have d5:=od l.length i (Nx l n);have d6:=od l.length i (Ot l n);have e0:=od l.length i (λk:Nat=>(k:Int));by_cases B:i<l.length
  case neg =>
   have hin:i=l.length:=D;subst hin;rw[oe,oe,oe,<-qv];refine OX ?_;intros;exact⟨(),trivial,aD,by exact ak⟩
  have a5:(i:Int).toNat=i:=D;have b0:=U _ (bA B);unfold a0 at b0
  have e6:0<=dN i (Nx l n)/\dN i (Nx l n)<=aY (l.take i):=by
   rw[show aY (l.take i)=dN i (λk=>l[k]!.2.2) by unfold dN;rw[pA l i hi]];refine⟨?_,pk (λk hk=>(ub U h0 K D).2)⟩;have:=pk (n:=i) (f:=λ_=>0) (g:=Nx l n) (λk hk=>(ub U h0 K D).1)
   rw[rU] at this;omega
  have b7:=lD U i D;have c2:(i:Int)*1099511627776<=4096*1099511627776:=D;have d4:=gY i (Nx l n);obtain⟨q1,q2⟩:=ub U h0 K B;have e4:0<=Ot l n i:=eH _ D;have e5:Ot l n i<aY l:=dp _ hs;refine OX ?_;intros;rw[a5,Cd B];refine GO.cr (wW n l[i]!.2.2 (aY l) h0 T D D hs D (by have:=q2;unfold Nx at this;omega)) ?_;rw[show n*l[i]!.2.2 / aY l=Nx l n i from rfl,show n*l[i]!.2.2 % aY l=Ot l n i from rfl];refine OX ?_;intros;have h3:(iv l.length i (λk:Nat=>(k:Int))).set i (i:Int)=iv l.length (i+1) (λk:Nat=>(k:Int)):=oc _ B;rw[a5,oc (Nx l n) B,oc (Ot l n) B,h3];refine⟨i+1,D,D,?_,by exact ak⟩;rw[d4,show n - (dN i (Nx l n)+Nx l n i)=n - dN i (Nx l n) - Nx l n i by omega,bC i];exact aD
 rintro _ _;obtain⟨c1,e1⟩:=vX (n:=n) U c3;haveI:Inhabited (Fin l.length):=⟨⟨0,a9⟩⟩
 have d2:((List.range l.length).map (Ot l n)).length=l.length:=by simp
 have d0:(List.range l.length).map (λk:Nat=>(k:Int))=(List.finRange l.length).map (λi:Fin l.length=>(i.val:Int)):=by
  rw[<-qX,co];rfl
 have b9:(List.finRange l.length).length=l.length:=by simp
 rw[d0];refine Α.cL (Γ:=Ω (λx:Fin l.length=>[Value.int .i64 (x.val:Int)]) 1 B7 (some ⟨bo,0,none⟩) l.length (List.finRange l.length)::ξ rM 1 (some ⟨bv,0,none⟩) [⟨some ⟨br,0,none⟩,((List.range l.length).map (Ot l n)).length,l.length⟩]::ξ (dJ .u64) 1 (some ⟨br,0,none⟩) ((List.range l.length).map (Ot l n))::Ω (dJ .i64) 1 B7 (some ⟨bp,0,none⟩) l.length ((List.range l.length).map (Nx l n))::L) ?_ ?_
 .refine(F.Sf (some ⟨br,0,none⟩)).trans ?_;refine(F.at (Ο:=obj bv Du [ah (some ⟨br,0,none⟩) l.length l.length]) (F.d9 (Ε:=rM) (sz:=1) (I:=[⟨some ⟨br,0,none⟩,((List.range l.length).map (Ot l n)).length,l.length⟩]) (by rw[d2];rfl) rfl (λ_ _=>rfl) cj)).trans ?_;refine(F.Sf (some ⟨bv,0,none⟩)).trans ?_;refine(F.at (Ο:=Ω (dJ .i64) 1 B7 (some ⟨bo,0,none⟩) l.length ((List.finRange l.length).map (λi:Fin l.length=>(i.val:Int)))) (F.n5 (f:=λi:Fin l.length=>(i.val:Int)) (Ε:=dJ .i64))).trans ?_;show F (Ω (λx:Fin l.length=>[Value.int .i64 (x.val:Int)]) 1 B7 (some ⟨bo,0,none⟩) l.length (List.finRange l.length)::_) _;exact ak
 refine OX ?_;intros;have a3:=xR (η:=B7) (cap:=(List.finRange l.length).length) (ad:=some ⟨bo,0,none⟩) (Ε:=λi:Fin l.length=>Value.int .i64 (i.val:Int)) (by intro x;rfl) (I:=List.finRange l.length) (Lc:=[ξ rM 1 (some ⟨bv,0,none⟩) [⟨some ⟨br,0,none⟩,((List.range l.length).map (Ot l n)).length,l.length⟩],ξ (dJ .u64) 1 (some ⟨br,0,none⟩) ((List.range l.length).map (Ot l n))]) (g:=322) (cb:=#[av bv]) (xm (Ot l n) l.length) (FK _ _) Zh.1 vw (λx y=>AF bv (some ⟨br,0,none⟩) l.length ((List.range l.length).map (Ot l n)) x.val y.val D D D) D;rw[b9] at a3;(first|refine GO.ef (Ef.call (a3) rfl fQ) ae ?_);rintro _ _⟨_,⟨rfl,ys,⟨b4,b5⟩,rfl⟩,hL⟩;simp only[au,ax] at hL;subst hL
 have a2:(ys.map (λi=>i.val)).Perm (List.range l.length):=by
  rw[<-qX];exact b4.map _
 have a4:(ys.map (λi=>i.val)).Pairwise (Tq (Ot l n)):=by
  refine yf a2 ?_;rw[List.pairwise_map];refine b5.imp ?_;intro a b b6;rw[pu] at b6;omega
 obtain⟨o,ho⟩:∃o,o=ys.map (λi=>i.val):=⟨_,rfl⟩;rw[<-ho] at a2 a4;have c4:o.length=l.length:=by have:=a2.length_eq;simpa using this
 have XD:(o.map (λk:Nat=>(k:Int))).length=l.length:=by simpa using c4
 have c6:∀i,i<o.length->(o.map (λk:Nat=>(k:Int)))[i]! = (o[i]! : Int):=aj;have c5:∀i,i<o.length->o[i]! < l.length:=aj;refine GO.cL (Γ:=Ω (dJ .i64) 1 B7 (some ⟨bo,0,none⟩) l.length (o.map (λk:Nat=>(k:Int)))::Ω (dJ .i64) 1 B7 (some ⟨bp,0,none⟩) l.length ((List.range l.length).map (Nx l n))::L) ?_ ?_
 .have e:ys.map (λi:Fin l.length=>(i.val:Int))=o.map (λk:Nat=>(k:Int)):=by rw[ho,co];rfl
  rw[<-e];refine(show F _ (Ω (dJ .i64) 1 B7 (some ⟨bo,0,none⟩) l.length (ys.map (λi:Fin l.length=>(i.val:Int)))::_) from F.m8 (f:=λi:Fin l.length=>(i.val:Int)) (Ε:=dJ .i64)).trans ?_;exact ak
 clear b5 b4 ho ys;refine OX ?_;intros
 refine Α.loop (α:=Nat) (λi=>(i:Int)<=iS l n) (λi=>[(9,ah (some ⟨bp,0,none⟩) l.length l.length),(11,ah (some ⟨bo,0,none⟩) l.length l.length),(85,J (iS l n)),(86,J (i:Int))])
  (λi=>Ω (dJ .i64) 1 B7 (some ⟨bo,0,none⟩) l.length (o.map (λk:Nat=>(k:Int)))::Ω (dJ .i64) 1 B7 (some ⟨bp,0,none⟩) l.length ((List.range l.length).map (λk=>Nx l n k+if k∈o.take i then 1 else 0))::L) (λi=>(iS l n).toNat - i) 0 c1 aD ?_ ?_
 .have e:(List.range l.length).map (λk=>Nx l n k+if k∈o.take 0 then 1 else 0)=(List.range l.length).map (Nx l n):=aV aj;rw[e];exact ak
 intro i hi;by_cases B:(i:Int)<iS l n
 case neg =>
  have e:(List.range l.length).map (λk=>Nx l n k+if k∈o.take i then 1 else 0)=(List.range l.length).map (Qe l n):=by
   apply aV;intro k hk;have c0:=List.mem_range.1 hk;unfold Qe;rw[xV];congr 1;have h3:=lK a2 a4 (m:=i) c0;by_cases h4:kV (Ot l n) l.length k<i
   .grind
   .grind
  rw[e];refine OX ?_;intros;exact KX.en ⟨some ⟨bp,0,none⟩,l.length,rfl,rfl⟩
 have a5:(i:Int).toNat=i:=D;have a6:i<o.length:=D;have M:=c5 i a6;have e3:((List.range l.length).map (λk=>Nx l n k+if k∈o.take i then 1 else 0)).length=l.length:=by simp
 have d1:((List.range l.length).map (λk=>Nx l n k+if k∈o.take i then 1 else 0))[o[i]!]! = Nx l n o[i]!:=by
  rw[qh M,Ν,dC];intro b1;have h3:=(lK a2 a4 M).1 b1;rw[D7 a6,oM a2 a4 a6] at h3;omega
 obtain⟨q1,q2⟩:=ub U h0 K M;have b0:=U _ (bA M);unfold a0 at b0;refine OX ?_;intros;rw[a5,c6 i a6];have b3:((o[i]! : Nat):Int).toNat=o[i]!:=D;refine OX ?_;intros;rw[b3,d1];refine OX ?_;intros
 have e:((List.range l.length).map (λk=>Nx l n k+if k∈o.take i then 1 else 0)).set o[i]! (Nx l n o[i]! + 1)=(List.range l.length).map (λk=>Nx l n k+if k∈o.take (i+1) then 1 else 0):=by
  apply eX
  .simp
  .intro k h3 h4;have hk:k<l.length:=by simpa using h4
   rw[List.getElem_set];simp only[eW,List.getElem_range];have m1:=lK a2 a4 (m:=i) hk;have m2:=lK a2 a4 (m:=i+1) hk;by_cases h5:o[i]! = k
   .grind [oM]
   .rw[Ν h5];congr 1
    have h6:kV (Ot l n) l.length k≠i:=by
     intro h7;refine h5 (LQ (R:=Ot l n) M hk ?_);rw[h7,D7 a6];exact oM a2 a4 a6
    grind
 rw[b3,e];refine⟨i+1,D,D,?_,by exact ak⟩;rw[bC i];exact aD
