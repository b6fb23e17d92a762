/- Lemmas. -/
import Derived.Shelf.SlGeneric
import Derived.Shelf.SlLaysF
import Derived.Shelf.SlLaysF0
import Derived.Ground.SlsfProg
import Derived.Test.YtlgpgjdggilkgaaGreatDoorEcao
set_option linter.all false
set_option maxHeartbeats 2000000
namespace Go.Proofs
open Go.Shelf
def Tryz.sortI_ren:Go.Shelf.Ren:=⟨fun|6=>321|15=>121|14=>330|28=>181|29=>182|20=>335|21=>336|22=>337|23=>338|24=>339|25=>340|26=>341|27=>342|46=>344|47=>256|48=>257|49=>345|50=>346|57=>347|n=>n,fun|22=>22|24=>3|25=>23|3=>3|39=>61|0=>0|53=>291|55=>293|4=>4|46=>285|45=>284|50=>206|5=>5|9=>9|66=>348|70=>352|76=>380|77=>381|n=>n,fun|n=>n⟩
def Tryz.sortI:Go.Proofs.SlLaysF.n6 Tryz.prog Tryz.sortI_ren:={
 mixed:=by kernel_rfl
 f6:=⟨Tryz.f321.name,by decide,Tryz.func321.trans (congrArg some (by kernel_rfl))⟩
 f14:=⟨Tryz.f330.name,by decide,Tryz.func330.trans (congrArg some (by kernel_rfl))⟩
 f15:=Tryz.func121.trans (congrArg some (by kernel_rfl))
 f20:=⟨Tryz.f335.name,by decide,Tryz.func335.trans (congrArg some (by kernel_rfl))⟩
 f21:=⟨Tryz.f336.name,by decide,Tryz.func336.trans (congrArg some (by kernel_rfl))⟩
 f22:=⟨Tryz.f337.name,by decide,Tryz.func337.trans (congrArg some (by kernel_rfl))⟩
 f23:=⟨Tryz.f338.name,by decide,Tryz.func338.trans (congrArg some (by kernel_rfl))⟩
 f24:=⟨Tryz.f339.name,by decide,Tryz.func339.trans (congrArg some (by kernel_rfl))⟩
 f25:=⟨Tryz.f340.name,by decide,Tryz.func340.trans (congrArg some (by kernel_rfl))⟩
 f26:=⟨Tryz.f341.name,by decide,Tryz.func341.trans (congrArg some (by kernel_rfl))⟩
 f27:=⟨Tryz.f342.name,by decide,Tryz.func342.trans (congrArg some (by kernel_rfl))⟩
 f28:=Tryz.func181.trans (congrArg some (by kernel_rfl))
 f29:=Tryz.func182.trans (congrArg some (by kernel_rfl))
 f46:=⟨Tryz.f344.name,by decide,Tryz.func344.trans (congrArg some (by kernel_rfl))⟩
 f47:=Tryz.func256.trans (congrArg some (by kernel_rfl))
 f48:=Tryz.func257.trans (congrArg some (by kernel_rfl))
 f49:=⟨Tryz.f345.name,by decide,Tryz.func345.trans (congrArg some (by kernel_rfl))⟩
 f50:=⟨Tryz.f346.name,by decide,Tryz.func346.trans (congrArg some (by kernel_rfl))⟩
 f57:=⟨Tryz.f347.name,by decide,Tryz.func347.trans (congrArg some (by kernel_rfl))⟩
 t0:=Tryz.underlying0
 a0:=Tryz.isAgg0
 z0:=Tryz.sizeOf0
 v0:=Tryz.zeroValue0
 t3:=Tryz.underlying3
 a3:=Tryz.isAgg3
 z3:=Tryz.sizeOf3
 v3:=Tryz.zeroValue3
 t4:=Tryz.underlying4
 a4:=Tryz.isAgg4
 z4:=Tryz.sizeOf4
 v4:=Tryz.zeroValue4
 t5:=Tryz.underlying5
 a5:=Tryz.isAgg5
 z5:=Tryz.sizeOf5
 v5:=Tryz.zeroValue5
 t9:=Tryz.underlying9
 a9:=Tryz.isAgg9
 z9:=Tryz.sizeOf9
 v9:=Tryz.zeroValue9
 t22:=Tryz.underlying22
 a22:=Tryz.isAgg22
 z22:=Tryz.sizeOf22
 v22:=Tryz.zeroValue22
 a24:=Tryz.isAgg3
 z24:=Tryz.sizeOf3
 t25:=Tryz.underlying23
 a25:=Tryz.isAgg23
 z25:=Tryz.sizeOf23
 v25:=Tryz.zeroValue23
 t39:=Tryz.underlying61
 a39:=Tryz.isAgg61
 z39:=Tryz.sizeOf61
 v39:=Tryz.zeroValue61
 t45:=Tryz.underlying284
 a45:=Tryz.isAgg284
 z45:=Tryz.sizeOf284
 v45:=Tryz.zeroValue284
 t46:=Tryz.underlying285
 a46:=Tryz.isAgg285
 z46:=Tryz.sizeOf285
 v46:=Tryz.zeroValue285
 t50:=Tryz.underlying206
 a50:=Tryz.isAgg206
 z50:=Tryz.sizeOf206
 v50:=Tryz.zeroValue206
 t53:=Tryz.underlying291
 a53:=Tryz.isAgg291
 z53:=Tryz.sizeOf291
 v53:=Tryz.zeroValue291
 t55:=Tryz.underlying293
 a55:=Tryz.isAgg293
 z55:=Tryz.sizeOf293
 v55:=Tryz.zeroValue293
 t66:=Tryz.underlying348
 a66:=Tryz.isAgg348
 z66:=Tryz.sizeOf348
 v66:=Tryz.zeroValue348
 t70:=Tryz.underlying352
 a70:=Tryz.isAgg352
 z70:=Tryz.sizeOf352
 v70:=Tryz.zeroValue352
 t76:=Tryz.underlying380
 a76:=Tryz.isAgg380
 z76:=Tryz.sizeOf380
 v76:=Tryz.zeroValue380
 t77:=Tryz.underlying381
 a77:=Tryz.isAgg381
 z77:=Tryz.sizeOf381
 v77:=Tryz.zeroValue381 }
def Tryz.sortL_ren:Go.Shelf.Ren:=⟨fun|6=>117|15=>121|14=>170|28=>181|29=>182|20=>247|21=>248|22=>249|23=>250|24=>251|25=>252|26=>253|27=>254|46=>292|47=>256|48=>257|49=>293|50=>294|57=>309|n=>n,fun|22=>35|24=>47|25=>225|3=>3|39=>61|0=>0|53=>291|55=>293|4=>4|46=>285|45=>284|50=>206|5=>5|9=>9|66=>348|70=>352|76=>380|77=>381|n=>n,fun|n=>n⟩
def Tryz.sortL:Go.Proofs.SlLaysF0.n6 Tryz.prog Tryz.sortL_ren:={
 mixed:=by kernel_rfl
 f6:=⟨Tryz.f117.name,by decide,Tryz.func117.trans (congrArg some (by kernel_rfl))⟩
 f14:=⟨Tryz.f170.name,by decide,Tryz.func170.trans (congrArg some (by kernel_rfl))⟩
 f15:=Tryz.func121.trans (congrArg some (by kernel_rfl))
 f20:=⟨Tryz.f247.name,by decide,Tryz.func247.trans (congrArg some (by kernel_rfl))⟩
 f21:=⟨Tryz.f248.name,by decide,Tryz.func248.trans (congrArg some (by kernel_rfl))⟩
 f22:=⟨Tryz.f249.name,by decide,Tryz.func249.trans (congrArg some (by kernel_rfl))⟩
 f23:=⟨Tryz.f250.name,by decide,Tryz.func250.trans (congrArg some (by kernel_rfl))⟩
 f24:=⟨Tryz.f251.name,by decide,Tryz.func251.trans (congrArg some (by kernel_rfl))⟩
 f25:=⟨Tryz.f252.name,by decide,Tryz.func252.trans (congrArg some (by kernel_rfl))⟩
 f26:=⟨Tryz.f253.name,by decide,Tryz.func253.trans (congrArg some (by kernel_rfl))⟩
 f27:=⟨Tryz.f254.name,by decide,Tryz.func254.trans (congrArg some (by kernel_rfl))⟩
 f28:=Tryz.func181.trans (congrArg some (by kernel_rfl))
 f29:=Tryz.func182.trans (congrArg some (by kernel_rfl))
 f46:=⟨Tryz.f292.name,by decide,Tryz.func292.trans (congrArg some (by kernel_rfl))⟩
 f47:=Tryz.func256.trans (congrArg some (by kernel_rfl))
 f48:=Tryz.func257.trans (congrArg some (by kernel_rfl))
 f49:=⟨Tryz.f293.name,by decide,Tryz.func293.trans (congrArg some (by kernel_rfl))⟩
 f50:=⟨Tryz.f294.name,by decide,Tryz.func294.trans (congrArg some (by kernel_rfl))⟩
 f57:=⟨Tryz.f309.name,by decide,Tryz.func309.trans (congrArg some (by kernel_rfl))⟩
 t0:=Tryz.underlying0
 a0:=Tryz.isAgg0
 z0:=Tryz.sizeOf0
 v0:=Tryz.zeroValue0
 t3:=Tryz.underlying3
 a3:=Tryz.isAgg3
 z3:=Tryz.sizeOf3
 v3:=Tryz.zeroValue3
 t4:=Tryz.underlying4
 a4:=Tryz.isAgg4
 z4:=Tryz.sizeOf4
 v4:=Tryz.zeroValue4
 t5:=Tryz.underlying5
 a5:=Tryz.isAgg5
 z5:=Tryz.sizeOf5
 v5:=Tryz.zeroValue5
 t9:=Tryz.underlying9
 a9:=Tryz.isAgg9
 z9:=Tryz.sizeOf9
 v9:=Tryz.zeroValue9
 t22:=Tryz.underlying35
 a22:=Tryz.isAgg35
 z22:=Tryz.sizeOf35
 v22:=Tryz.zeroValue35
 t25:=Tryz.underlying225
 a25:=Tryz.isAgg225
 z25:=Tryz.sizeOf225
 v25:=Tryz.zeroValue225
 t39:=Tryz.underlying61
 a39:=Tryz.isAgg61
 z39:=Tryz.sizeOf61
 v39:=Tryz.zeroValue61
 t45:=Tryz.underlying284
 a45:=Tryz.isAgg284
 z45:=Tryz.sizeOf284
 v45:=Tryz.zeroValue284
 t46:=Tryz.underlying285
 a46:=Tryz.isAgg285
 z46:=Tryz.sizeOf285
 v46:=Tryz.zeroValue285
 t50:=Tryz.underlying206
 a50:=Tryz.isAgg206
 z50:=Tryz.sizeOf206
 v50:=Tryz.zeroValue206
 t53:=Tryz.underlying291
 a53:=Tryz.isAgg291
 z53:=Tryz.sizeOf291
 v53:=Tryz.zeroValue291
 t55:=Tryz.underlying293
 a55:=Tryz.isAgg293
 z55:=Tryz.sizeOf293
 v55:=Tryz.zeroValue293
 t66:=Tryz.underlying348
 a66:=Tryz.isAgg348
 z66:=Tryz.sizeOf348
 v66:=Tryz.zeroValue348
 t70:=Tryz.underlying352
 a70:=Tryz.isAgg352
 z70:=Tryz.sizeOf352
 v70:=Tryz.zeroValue352
 t76:=Tryz.underlying380
 a76:=Tryz.isAgg380
 z76:=Tryz.sizeOf380
 v76:=Tryz.zeroValue380
 t77:=Tryz.underlying381
 a77:=Tryz.isAgg381
 z77:=Tryz.sizeOf381
 v77:=Tryz.zeroValue381 }
end Go.Proofs
namespace Go.Proofs.YtlgpgjdggilkgaaGreatDoor
section
open Go.V
attribute [local irreducible] G GO GP GPW GPK Ev Ef EfR Ent CB GB Enters
def cmpI(a b:Int):Int:=if a<b then -1 else if b<a then 1 else 0
def jp{φ ψ:Prop}(k:ψ)(h:Hid ψ→φ:=by intro k;first|refine GO.ci (f:=122) (Hid.out k)|refine GPW.ci (f:=122) (Hid.out k)|refine GO.cf (f:=122) rfl (Hid.out k)|refine GPW.cf (f:=122) rfl (Hid.out k)|refine KX.inA (Hid.out k)):φ:=h ⟨k⟩
def nZ{L:LH}(a b:Int):Tri Tryz.prog 62 #[ac a,ac b] L (rtQ (ac (cmpI a b)) L):=by
 refine Tri.bd ?_;unfold cmpI;by_cases h1:a<b
 ·rw[if_pos h1];repeat first|refine aa ?_|intro _|refine jp ?_
  exact KX.en ⟨rfl,rfl⟩
 rw[if_neg h1];by_cases h2:b<a
 ·rw[if_pos h2];repeat first|refine aa ?_|intro _|refine jp ?_
  exact KX.en ⟨rfl,rfl⟩
 rw[if_neg h2];repeat first|refine aa ?_|intro _|refine jp ?_
 exact KX.en ⟨rfl,rfl⟩
def jo{φ ψ:Prop}(k:ψ)(h:Hid ψ→φ:=by intro k;first|refine GO.ci (f:=331) (Hid.out k)|refine GPW.ci (f:=331) (Hid.out k)|refine GO.cf (f:=331) rfl (Hid.out k)|refine GPW.cf (f:=331) rfl (Hid.out k)|refine KX.inA (Hid.out k)):φ:=h ⟨k⟩
def Gb{L:LH}(a b:Int):Tri Tryz.prog 323 #[.int .u64 a,.int .u64 b] L (rtQ (ac (cmpI a b)) L):=by
 refine Tri.bd ?_;unfold cmpI;by_cases h1:a<b
 ·rw[if_pos h1];repeat first|refine aa ?_|intro _|refine jo ?_
  exact KX.en ⟨rfl,rfl⟩
 rw[if_neg h1];by_cases h2:b<a
 ·rw[if_pos h2];repeat first|refine aa ?_|intro _|refine jo ?_
  exact KX.en ⟨rfl,rfl⟩
 rw[if_neg h2];repeat first|refine aa ?_|intro _|refine jo ?_
 exact KX.en ⟨rfl,rfl⟩
def orI(a b:Int):Int:=if a=0 then b else a
def tv{L:LH}(ad:OA)(c:Nat)(a b:Int)[Rds L ad Int (encZ .i64) 1 [a,b]]:Tri Tryz.prog 61 #[ag ad 2 c] L (rtQ (ac (orI a b)) L):=by
 have hl:([a,b]:List Int).length=2:=rfl;have h0:([a,b]:List Int)[(0:Int).toNat]! = a:=rfl;have h1:([a,b]:List Int)[((0:Int)+1).toNat]! = b:=rfl;unfold orI;refine Tri.bd ?_;refine Ks ?_;intros;refine G.f7 3 (GR.step ?_);refine Ks ?_;intros;rw[h0];by_cases ha:a=0
 case neg =>
  rw[if_neg ha];refine Ks ?_;intros;exact KX.en ⟨rfl,rfl⟩
 rw[if_pos ha];refine Ks ?_;intros;refine GR.step ?_;refine Ks ?_;intros;rw[h1];by_cases hb:b=0
 case neg =>
  refine Ks ?_;intros;exact KX.en ⟨rfl,rfl⟩
 refine Ks ?_;intros;refine GR.step ?_;refine Ks ?_;intros;exact KX.a8 aA (Ent.refl _) ⟨by rw[hb];rfl,rfl⟩
def kb(n:Int):Prop:=0≤n∧n≤1099511627776
instance:DecidablePred kb:=fun n=>by unfold kb;infer_instance
def ma{L:LH}(n:Int):Tri Tryz.prog 319 #[ac n] L (rtQ (.bool (dB (kb n))) L):=by
 refine Tri.bd ?_;by_cases h1:0≤n
 ·by_cases h2:n≤1099511627776
  ·refine Ks ?_;intros;exact KX.a8 aA (Ent.refl _) ⟨by rw[bE h2,bE (show kb n from⟨h1,h2⟩)];rfl,rfl⟩
  ·refine Ks ?_;intros;exact KX.a8 aA (Ent.refl _) ⟨by rw[aW h2,aW (fun h:kb n=>h2 h.2)];rfl,rfl⟩
 ·refine Ks ?_;intros;exact KX.a8 aA (Ent.refl _) ⟨by rw[aW (fun h:kb n=>h1 h.1)];rfl,rfl⟩
def lV(n:Int):Prop:=0≤n∧n≤1152921504606846976
instance:DecidablePred lV:=fun n=>by unfold lV;infer_instance
def qq{L:LH}(n:Int):Tri Tryz.prog 327 #[ac n] L (rtQ (.bool (dB (lV n))) L):=by
 refine Tri.bd ?_;by_cases h1:0≤n
 ·by_cases h2:n≤1152921504606846976
  ·refine Ks ?_;intros;exact KX.a8 aA (Ent.refl _) ⟨by rw[bE h2,bE (show lV n from⟨h1,h2⟩)];rfl,rfl⟩
  ·refine Ks ?_;intros;exact KX.a8 aA (Ent.refl _) ⟨by rw[aW h2,aW (fun h:lV n=>h2 h.2)];rfl,rfl⟩
 ·refine Ks ?_;intros;exact KX.a8 aA (Ent.refl _) ⟨by rw[aW (fun h:lV n=>h1 h.1)];rfl,rfl⟩
def wS{L:LH}(a0 num a1:Nat)(h1:a0≤1099511627776)(h2:num≤1152921504606846976)(h3:a1≤1152921504606846976)(h0:0<a1)(hq:a0*num / a1≤1099511627776) :
  Tri Tryz.prog 320 #[ac (a0:Int),ac (num:Int),ac (a1:Int)] L (rtQ (.tuple #[.int .u64 ((a0*num / a1:Nat):Int),.int .u64 ((a0*num % a1:Nat):Int),ac 0]) L):=by
 have e:=fO (a0*num) 18446744073709551616;rw[ft] at e
 have a2:a0*num / 18446744073709551616<a1:=by
  rw[eM ae];have h4:=Nat.lt_div_mul_add (a:=a0*num) h0;have h5:a0*num / a1*a1≤1099511627776*a1:=bj _ hq;omega
 have a3:=dU (a0*num) (show 0<18446744073709551616 by decide);refine Tri.bd ?_;refine Ks ?_;intros;refine GO.ca (ma (a0:Int)) ?_;rintro _ L ⟨rfl,rfl⟩;rw[bE (show kb (a0:Int) from⟨ab,ab⟩)];refine Ks ?_;intros;refine GO.ca (qq (num:Int)) ?_;rintro _ L ⟨rfl,rfl⟩;rw[bE (show lV (num:Int) from⟨ab,ab⟩)];refine Ks ?_;intros;refine GO.ca (qq (a1:Int)) ?_;rintro _ L ⟨rfl,rfl⟩;rw[bE (show lV (a1:Int) from⟨ab,ab⟩)];refine Ks ?_;intros;refine GO.ca (Dw a0 num ab ab) ?_;rintro _ L ⟨rfl,rfl⟩;refine Ks ?_;intros;refine GO.ca (DU (a0*num / 18446744073709551616) (a0*num % 18446744073709551616) a1 a2 a3 ab) ?_;rintro _ L ⟨rfl,rfl⟩;rw[e];refine Ks ?_;intros;exact KX.en ⟨rfl,rfl⟩
def iy(n i:Nat)(f:Nat→Int):List Int:=(List.range n).map (fun k=>if k<i then f k else 0)
def nF(n i:Nat)(f:Nat→Int):(iy n i f).length=n:=by simp[iy]
def my(n:Nat)(f:Nat→Int):iy n 0 f=List.replicate n 0:=by
 apply fH
 ·simp[iy]
 ·intro i h1 h2;simp[iy]
def nE{n i:Nat}(f:Nat→Int)(h:i<n):(iy n i f).set i (f i)=iy n (i+1) f:=by
 apply fH
 ·simp[iy]
 ·intro j h1 h2;rw[fG];simp only[iy,eC,List.getElem_range];by_cases hj:i=j
  ·subst hj;simp
  ·rw[if_neg hj];by_cases h3:j<i
   ·rw[if_pos h3,if_pos ab]
   ·rw[if_neg h3,if_neg ab]
def nG(n:Nat)(f:Nat→Int):iy n n f=(List.range n).map f:=by
 apply dI;intro k hk;rw[if_pos (List.mem_range.1 hk)]
def shCf(rs:List Int)(i j:Nat):Int:=orI (cmpI rs[j]! rs[i]!) (cmpI i j)
def Io(rs:List Int)(i j:Nat):shCf rs i j<0↔rs[j]! < rs[i]!∨(rs[j]! = rs[i]!∧i<j):=by
 unfold shCf orI cmpI;generalize rs[j]! = x;generalize rs[i]! = y;by_cases h1:x<y
 ·rw[if_pos h1,if_neg ae];omega
 ·rw[if_neg h1];by_cases h2:y<x
  ·rw[if_pos h2,if_neg ae];omega
  ·rw[if_neg h2,if_pos rfl];split
   ·omega
   ·split<;>omega
abbrev zD:=XC [.ev 9,.ev 10,.ef 8,.ef 11,.ef 12,.ef 13,.ev 14]
def MP{φ ψ:Prop}(k:ψ)(h:Hid ψ→φ:=by intro k;(repeat (first|refine aa ?_|intro zzz|refine G.dr 20 1 zD ?_));(repeat revert zzz);exact Hid.out k):φ:=h ⟨k⟩
def zq(b:Nat)(ad:OA)(c:Nat)(rs:List Int)(i j:Nat)(hi:i<rs.length)(hj:j<rs.length)(hl:rs.length≤1000000) :
  Tri Tryz.prog 322 #[ac (i:Int),ac (j:Int),ax b] [isl rg 1 (some ⟨b,0,none⟩) [⟨ad,rs.length,c⟩],isl (encZ .u64) 1 ad rs] (fun u _=>u=ac (shCf rs i j)):=by
 have a0:(i:Int).toNat=i:=ab;have a1:(j:Int).toNat=j:=ab;have a2:([⟨ad,rs.length,c⟩]:List SlV).length=1:=rfl;refine Tri.bd ?_;refine MP ?_;intros;refine GPW.evL (Ev.m7 (enc:=rg) (xs:=[⟨ad,rs.length,c⟩]) (j:=0) (o:=0) rfl rfl cc ae (show _=some (ag ad rs.length c) from rfl)) ae ?_;refine MP ?_;intros;refine GPW.evL (Ev.m7 (enc:=rg) (xs:=[⟨ad,rs.length,c⟩]) (j:=0) (o:=0) rfl rfl cc ae (show _=some (ag ad rs.length c) from rfl)) ae ?_;refine MP ?_;intros;rw[a0,a1];refine GPW.cr (Gb rs[j]! rs[i]!) ?_;refine MP ?_;intros;refine GPW.cr (nZ (i:Int) (j:Int)) ?_;refine MP ?_;intros;rename_i b2;refine GPW.ent (Ent.f7 (enc:=encZ .i64) (sz:=1) (xs:=[cmpI rs[j]! rs[i]!,cmpI (i:Int) (j:Int)]) rfl rfl (fun _ _=>rfl) cc) ?_;refine GPW.cr (tv (some ⟨b2,0,none⟩) 2 (cmpI rs[j]! rs[i]!) (cmpI (i:Int) (j:Int))) ?_;refine MP ?_;intros;exact KX.a8 aA (Ent.refl _) rfl
end
section
open Go.V
attribute [local irreducible] G GO GP GPW GPK Ev Ef EfR Ent CB GB V.Enters
def uz{α β:Type}{e1:α→LV}{e2:β→LV}{s1 s2:Nat}{a1 a2:OA}{x1:List α}{x2:List β}:∀ι h,Stars [isl e1 s1 a1 x1,isl e2 s2 a2 x2] ι h→Stars [isl e1 s1 a1 x1,isl e2 s2 a2 x2] ι Hp.emp:=by
 rintro ι h ⟨ι₀,h₁,h₂,a,b,c,d,e,ι₁,h₃,h₄,a',b',c',d',e',f'⟩;exact⟨ι₀,Hp.emp,Hp.emp,a,Hp.c7 _,Hp.a8 _,Hp.a8 _,e,ι₁,Hp.emp,Hp.emp,a',Hp.c7 _,Hp.a8 _,Hp.a8 _,e',trivial⟩
def wts(l:LL):List Int:=l.map (fun x=>x.2.2)
def HZ(l:LL):(wts l).length=l.length:=by simp[wts]
def AX{l:LL}{k:Nat}(h:k<l.length):(wts l)[k]! = l[k]!.2.2:=iZ _ h
def th{l:LL}{n:Int}(hl:∀x∈l,LotOk x)(h0:0≤n)(h1:n≤lsum l){k:Nat}(hk:k<l.length):0≤shQ l n k∧shQ l n k≤l[k]!.2.2:=by
 have hs:=ky hl hk;have hw:=hl _ (aV hk);unfold LotOk at hw;refine⟨je (Int.mul_nonneg h0 ab) ab,?_⟩;unfold shQ;refine Int.ediv_le_of_le_mul hs ?_;rw[Int.mul_comm];exact Int.mul_le_mul_of_nonneg_left h1 ab
def vM{L:LH}(n w s:Int)(h0:0≤n)(h1:n≤1099511627776)(h2:0≤w)(h3:w≤1152921504606846976)(h4:0<s)(h5:s≤1152921504606846976)(hq:n*w / s≤1099511627776) :
  Tri Tryz.prog 320 #[ac n,ac w,ac s] L (rtQ (.tuple #[.int .u64 (n*w / s),.int .u64 (n*w % s),ac 0]) L):=by
 obtain⟨nN,rfl⟩:∃nN:Nat,n=(nN:Int):=⟨n.toNat,ab⟩;obtain⟨wN,rfl⟩:∃wN:Nat,w=(wN:Int):=⟨w.toNat,ab⟩;obtain⟨sN,rfl⟩:∃sN:Nat,s=(sN:Int):=⟨s.toNat,ab⟩;have e1:(nN:Int)*(wN:Int) / (sN:Int)=((nN*wN / sN:Nat):Int):=by rw[Int.natCast_ediv,Int.natCast_mul]
 have e2:(nN:Int)*(wN:Int) % (sN:Int)=((nN*wN % sN:Nat):Int):=by rw[Int.natCast_emod,Int.natCast_mul]
 rw[e1] at hq;rw[e1,e2];exact wS nN wN sN ab ab ab ab ab
def wH{E cap:Nat}{ad:OA}{α:Type}[Inhabited α]{enc:α→Value}(h1:OneCell enc){xs:List α}{Lc:LH}{g:Nat}{cb:Array Value}(cf:α→α→Int)(hO:Go.Sort.SWO (ltOf cf))(a2:V.Enters Tryz.prog g)(a0:∀ι h,Stars Lc ι h→Stars Lc ι Hp.emp)(a1:∀x y:α,Tri Tryz.prog g (#[enc x,enc y]++cb) Lc (fun u _=>u=ac (cf x y)))(a3:xs.length<4611686018427387904) :
  Tri Tryz.prog 321 #[ag ad xs.length cap,.func (.func g) #[] cb] (osl (fun x=>[enc x]) 1 E ad cap xs::Lc) (fun v L'=>v=.tuple #[]∧∃ys,gV cf xs ys∧L' = osl (fun x=>[enc x]) 1 E ad cap ys::Lc) :=
 Tri.c8 (ρ:=Tryz.sortI_ren) Tryz.sortI { Tryz.sortI with } h1 cf hO Ki a2 a0 a1 a3
def qy(n:Nat):(List.finRange n).map (fun i=>i.val)=List.range n:=by
 apply fH
 ·simp
 ·intro i h1 h2;simp
def km{f:Nat→Int}{n k:Nat}(h:k<n):((List.range n).map f)[k]! = f k:=by
 rw[getElem!_of (by simpa using h)];simp
def vX(R:Nat→Int)(n:Nat)(i j:Fin n):Int:=shCf ((List.range n).map R) i.val j.val
def oC(R:Nat→Int)(n:Nat)(i j:Fin n):vX R n i j<0↔R j.val<R i.val∨(R j.val=R i.val∧i.val<j.val):=by
 unfold vX;rw[Io,km i.isLt,km j.isLt]
def EB(R:Nat→Int)(n:Nat):Go.Sort.SWO (ltOf (vX R n)) where
 irrefl x:=by simp only[ltOf,decide_eq_false_iff_not];rw[oC];omega
 trans x y z h1 h2:=by simp only[ltOf,decide_eq_true_eq] at *;rw[oC] at *;omega
 ntrans x y z h1 h2:=by simp only[ltOf,decide_eq_false_iff_not] at *;rw[oC] at *;omega
abbrev tU64:Nat:=293
abbrev Cn:Nat:=202
abbrev xm:=XD [.ev 10,.ef 11,.ev 12,.ef 13,.ev 14,.ef 15]
def cp{φ ψ:Prop}(k:ψ)(h:Hid ψ→φ:=by intro k;(with_reducible apply G.a8);first|refine G.dr 100 23 xm (Hid.out k)):φ:=h ⟨k⟩
def MV{φ ψ:Prop}(k:ψ)(h:Hid ψ→φ:=by intro k;(repeat (first|refine aa ?_|intro zzz|refine cp ?_));(repeat revert zzz);exact Hid.out k):φ:=h ⟨k⟩
def Cr{L:LH}(ad:OA)(c:Nat)(l:LL)(n:Int)[hrd:Rds L ad Int (encZ .i64) 1 (wts l)](e2:l.length≤4096)(hl:∀x∈l,LotOk x)(b5:l≠[])(h0:0≤n)(h1:n≤lsum l)(h2:n≤1099511627776) :
  Tri Tryz.prog 312 #[ac n,ag ad l.length c] L (fun v L'=>∃b3 a7,v=.tuple #[ag b3 l.length a7,ac 0]∧L' = osl (encZ .i64) 1 tInt b3 a7 ((List.range l.length).map (shC l n))::L):=by
 have a9:0<l.length:=List.length_pos_iff.2 b5;have e8:=HZ l;have hs:=ky hl a9;have d3:=mJ hl l.length (aq _);rw[lv] at d3;have hm:(l.length:Int)*1099511627776≤4096*1099511627776:=fe ab ae;refine Tri.bd ?_;refine MV ?_;intros;refine GO.ca (ma n) ?_;rintro _ L ⟨rfl,rfl⟩;rw[bE (show kb n from⟨h0,h2⟩)];repeat first|refine G.sm 4 ?_|refine dq ?_|intro _|refine cp ?_
 refine G.c7 (α:=Unit) (fun _=>True) (fun _=>[(0,ac n),(1,ag ad l.length c),(6,ac (lsum l))]) (fun _=>L) ?_ ?_
 ·refine MV ?_;intros;refine G.loop (α:=Nat) (fun i=>i≤l.length) (fun i=>[(0,ac n),(1,ag ad l.length c),(6,ac (lsum (l.take i))),(21,ag ad l.length c),(22,ac l.length),(23,ac (i:Int))]) (fun _=>L) (fun i=>l.length - i) 0 (aw _) aC (Ent.refl _) ?_;intro i hi;by_cases a0:i<l.length
  case neg =>
   have hin:i=l.length:=ab;subst hin;rw[lv];refine MV ?_;intros;exact⟨(),trivial,aC,Ent.refl _⟩
  have a6:(i:Int).toNat=i:=ab;have b0:=hl _ (aV a0);unfold LotOk at b0;have c0:=mJ hl i ab;have c1:=ig l a0;have c4:(i:Int)*1099511627776≤4096*1099511627776:=fe ab ae;refine MV ?_;intros;rw[a6,AX a0];refine GO.ca (ma l[i]!.2.2) ?_;rintro _ L ⟨rfl,rfl⟩;rw[bE (show kb l[i]!.2.2 from⟨ab,ab⟩)];refine MV ?_;intros;refine⟨i+1,ab,ab,?_,Ent.refl _⟩;rw[c1,bh i];exact aC
 rintro _ _;refine MV ?_;intros;refine GO.ef (Ef.makeSlice (encZ .i64) 0 rfl rfl rfl ab ab ab) ae ?_;rintro _ _⟨bp,rfl,rfl⟩;rw[aY,←my l.length (shQ l n)];refine MV ?_;intros;refine GO.ef (Ef.makeSlice (encZ .u64) 0 rfl rfl rfl ab ab ab) ae ?_;rintro _ _⟨br,rfl,rfl⟩;rw[aY,←my l.length (shR l n)];refine MV ?_;intros;rename_i bv;refine GO.ef (Ef.makeSlice (encZ .i64) 0 rfl rfl rfl ab ab ab) ae ?_;rintro _ _⟨bo,rfl,rfl⟩;rw[aY,←my l.length (fun k:Nat=>(k:Int))];repeat first|refine G.sm 19 ?_|refine dq ?_|intro _|refine cp ?_
 refine G.c7 (α:=Unit) (fun _=>True) (fun _=>[(9,ag (some ⟨bp,0,none⟩) l.length l.length),(10,ax bv),(11,ag (some ⟨bo,0,none⟩) l.length l.length),(12,ac (iS l n))])
  (fun _=>osl (encZ .i64) 1 tInt (some ⟨bp,0,none⟩) l.length ((List.range l.length).map (shQ l n))::obj bv Cn [ag (some ⟨br,0,none⟩) l.length l.length]::osl (encZ .u64) 1 tU64 (some ⟨br,0,none⟩) l.length ((List.range l.length).map (shR l n))::osl (encZ .i64) 1 tInt (some ⟨bo,0,none⟩) l.length ((List.range l.length).map (fun k:Nat=>(k:Int)))::L) ?_ ?_
 ·refine MV ?_;intros
  refine G.loop (α:=Nat) (fun i=>i≤l.length) (fun i=>[(0,ac n),(1,ag ad l.length c),(6,ac (lsum l)),(9,ag (some ⟨bp,0,none⟩) l.length l.length),(10,ax bv),(11,ag (some ⟨bo,0,none⟩) l.length l.length),(12,ac (n - fx i (shQ l n))),(49,ac l.length),(50,ac (i:Int))])
   (fun i=>osl (encZ .i64) 1 tInt (some ⟨bp,0,none⟩) l.length (iy l.length i (shQ l n))::obj bv Cn [ag (some ⟨br,0,none⟩) l.length l.length]::osl (encZ .u64) 1 tU64 (some ⟨br,0,none⟩) l.length (iy l.length i (shR l n))::osl (encZ .i64) 1 tInt (some ⟨bo,0,none⟩) l.length (iy l.length i (fun k:Nat=>(k:Int)))::L) (fun i=>l.length - i) 0 (aw _) ?_ ah ?_
  ·rw[oA,Int.sub_zero];exact aC
  intro i hi;have d5:=nF l.length i (shQ l n);have d6:=nF l.length i (shR l n);have e0:=nF l.length i (fun k:Nat=>(k:Int));by_cases a0:i<l.length
  case neg =>
   have hin:i=l.length:=ab;subst hin;rw[nG,nG,nG,←vc];refine MV ?_;intros;exact⟨(),trivial,aC,by exact ah⟩
  have a6:(i:Int).toNat=i:=ab;have b0:=hl _ (aV a0);unfold LotOk at b0
  have e7:0≤fx i (shQ l n)∧fx i (shQ l n)≤lsum (l.take i):=by
   rw[show lsum (l.take i)=fx i (fun k=>l[k]!.2.2) by unfold fx;rw[oJ l i hi]];refine⟨?_,oB (fun k hk=>(th hl h0 h1 ab).2)⟩;have:=oB (n:=i) (f:=fun _=>0) (g:=shQ l n) (fun k hk=>(th hl h0 h1 ab).1)
   rw[rn] at this;omega
  have c0:=mJ hl i ab;have c4:(i:Int)*1099511627776≤4096*1099511627776:=fe ab ae;have d4:=gH i (shQ l n);obtain⟨q1,q2⟩:=th hl h0 h1 a0;have e5:0≤shR l n i:=ed _ ab;have e6:shR l n i<lsum l:=dC _ hs;refine MV ?_;intros;rw[a6,AX a0];refine GO.cr (vM n l[i]!.2.2 (lsum l) h0 h2 ab ab hs ab (by have:=q2;unfold shQ at this;omega)) ?_;rw[show n*l[i]!.2.2 / lsum l=shQ l n i from rfl,show n*l[i]!.2.2 % lsum l=shR l n i from rfl];refine MV ?_;intros;have h3:(iy l.length i (fun k:Nat=>(k:Int))).set i (i:Int)=iy l.length (i+1) (fun k:Nat=>(k:Int)):=nE _ a0;rw[a6,nE (shQ l n) a0,nE (shR l n) a0,h3];refine⟨i+1,ab,ab,?_,by exact ah⟩;rw[d4,show n - (fx i (shQ l n)+shQ l n i)=n - fx i (shQ l n) - shQ l n i by omega,bh i];exact aC
 rintro _ _;obtain⟨c3,e1⟩:=EA (n:=n) hl b5;haveI:Inhabited (Fin l.length):=⟨⟨0,a9⟩⟩
 have b1:((List.range l.length).map (shR l n)).length=l.length:=by simp
 have d1:(List.range l.length).map (fun k:Nat=>(k:Int))=(List.finRange l.length).map (fun i:Fin l.length=>(i.val:Int)):=by
  rw[←qy,cX];rfl
 have b4:(List.finRange l.length).length=l.length:=by simp
 rw[d1];refine G.ent (L':=osl (fun x:Fin l.length=>[Value.int .i64 (x.val:Int)]) 1 tInt (some ⟨bo,0,none⟩) l.length (List.finRange l.length)::isl rg 1 (some ⟨bv,0,none⟩) [⟨some ⟨br,0,none⟩,((List.range l.length).map (shR l n)).length,l.length⟩]::isl (encZ .u64) 1 (some ⟨br,0,none⟩) ((List.range l.length).map (shR l n))::osl (encZ .i64) 1 tInt (some ⟨bp,0,none⟩) l.length ((List.range l.length).map (shQ l n))::L) ?_ ?_
 ·refine(Ent.frz (some ⟨br,0,none⟩)).trans ?_;refine(Ent.at (A:=obj bv Cn [ag (some ⟨br,0,none⟩) l.length l.length]) (Ent.f7 (enc:=rg) (sz:=1) (xs:=[⟨some ⟨br,0,none⟩,((List.range l.length).map (shR l n)).length,l.length⟩]) (by rw[b1];rfl) rfl (fun _ _=>rfl) cc)).trans ?_;refine(Ent.frz (some ⟨bv,0,none⟩)).trans ?_;refine(Ent.at (A:=osl (encZ .i64) 1 tInt (some ⟨bo,0,none⟩) l.length ((List.finRange l.length).map (fun i:Fin l.length=>(i.val:Int)))) (Ent.n7 (f:=fun i:Fin l.length=>(i.val:Int)) (enc:=encZ .i64))).trans ?_;show Ent (osl (fun x:Fin l.length=>[Value.int .i64 (x.val:Int)]) 1 tInt (some ⟨bo,0,none⟩) l.length (List.finRange l.length)::_) _;exact ah
 refine MV ?_;intros;have a4:=wH (E:=tInt) (cap:=(List.finRange l.length).length) (ad:=some ⟨bo,0,none⟩) (enc:=fun i:Fin l.length=>Value.int .i64 (i.val:Int)) (by intro x;rfl) (xs:=List.finRange l.length) (Lc:=[isl rg 1 (some ⟨bv,0,none⟩) [⟨some ⟨br,0,none⟩,((List.range l.length).map (shR l n)).length,l.length⟩],isl (encZ .u64) 1 (some ⟨br,0,none⟩) ((List.range l.length).map (shR l n))]) (g:=322) (cb:=#[ax bv]) (vX (shR l n) l.length) (EB _ _) en322.1 uz (fun x y=>zq bv (some ⟨br,0,none⟩) l.length ((List.range l.length).map (shR l n)) x.val y.val (by rw[b1];exact x.isLt) (by rw[b1];exact y.isLt) (by rw[b1];omega)) (by rw[b4];omega);rw[b4] at a4;(first|refine GO.ef (Ef.call (a4) rfl dd) ae ?_);rintro _ _⟨_,⟨rfl,ys,⟨b7,b8⟩,rfl⟩,hL⟩;simp only[al,ak] at hL;subst hL
 have a2:(ys.map (fun i=>i.val)).Perm (List.range l.length):=by
  rw[←qy];exact b7.map _
 have a5:(ys.map (fun i=>i.val)).Pairwise (rkLt (shR l n)):=by
  refine wW a2 ?_;rw[List.pairwise_map];refine b8.imp ?_;intro a b b9;rw[oC] at b9;omega
 obtain⟨o,ho⟩:∃o,o=ys.map (fun i=>i.val):=⟨_,rfl⟩;rw[←ho] at a2 a5;have c5:o.length=l.length:=by have:=a2.length_eq;simpa using this
 have e3:(o.map (fun k:Nat=>(k:Int))).length=l.length:=by simpa using c5
 have d0:∀i,i<o.length→(o.map (fun k:Nat=>(k:Int)))[i]! = (o[i]! : Int):=fun i hi=>iZ _ hi;have c6:∀i,i<o.length→o[i]! < l.length:=fun i hi=>List.mem_range.1 (a2.mem_iff.1 (aV hi));refine GO.ent (L':=osl (encZ .i64) 1 tInt (some ⟨bo,0,none⟩) l.length (o.map (fun k:Nat=>(k:Int)))::osl (encZ .i64) 1 tInt (some ⟨bp,0,none⟩) l.length ((List.range l.length).map (shQ l n))::L) ?_ ?_
 ·have e:ys.map (fun i:Fin l.length=>(i.val:Int))=o.map (fun k:Nat=>(k:Int)):=by rw[ho,cX];rfl
  rw[←e];refine(show Ent _ (osl (encZ .i64) 1 tInt (some ⟨bo,0,none⟩) l.length (ys.map (fun i:Fin l.length=>(i.val:Int)))::_) from Ent.m9 (f:=fun i:Fin l.length=>(i.val:Int)) (enc:=encZ .i64)).trans ?_;exact ah
 clear b8 b7 ho ys;refine MV ?_;intros
 refine G.loop (α:=Nat) (fun i=>(i:Int)≤iS l n) (fun i=>[(9,ag (some ⟨bp,0,none⟩) l.length l.length),(11,ag (some ⟨bo,0,none⟩) l.length l.length),(85,ac (iS l n)),(86,ac (i:Int))])
  (fun i=>osl (encZ .i64) 1 tInt (some ⟨bo,0,none⟩) l.length (o.map (fun k:Nat=>(k:Int)))::osl (encZ .i64) 1 tInt (some ⟨bp,0,none⟩) l.length ((List.range l.length).map (fun k=>shQ l n k+if k∈o.take i then 1 else 0))::L) (fun i=>(iS l n).toNat - i) 0 c3 aC ?_ ?_
 ·have e:(List.range l.length).map (fun k=>shQ l n k+if k∈o.take 0 then 1 else 0)=(List.range l.length).map (shQ l n):=dI (fun k _=>by simp);rw[e];exact ah
 intro i hi;by_cases a0:(i:Int)<iS l n
 case neg =>
  have e:(List.range l.length).map (fun k=>shQ l n k+if k∈o.take i then 1 else 0)=(List.range l.length).map (shC l n):=by
   apply dI;intro k hk;have c2:=List.mem_range.1 hk;unfold shC;rw[GA];congr 1;have h3:=lF a2 a5 (m:=i) c2;by_cases h4:lG (shR l n) l.length k<i
   ·rw[if_pos (h3.2 h4),if_pos ab]
   ·rw[if_neg (fun h=>h4 (h3.1 h)),if_neg ab]
  rw[e];refine MV ?_;intros;exact KX.en ⟨some ⟨bp,0,none⟩,l.length,rfl,rfl⟩
 have a6:(i:Int).toNat=i:=ab;have a3:i<o.length:=ab;have a1:=c6 i a3;have e4:((List.range l.length).map (fun k=>shQ l n k+if k∈o.take i then 1 else 0)).length=l.length:=by simp
 have d2:((List.range l.length).map (fun k=>shQ l n k+if k∈o.take i then 1 else 0))[o[i]!]! = shQ l n o[i]!:=by
  rw[km a1,if_neg,Int.add_zero];intro b2;have h3:=(lF a2 a5 a1).1 b2;rw[getElem!_of a3,od a2 a5 a3] at h3;omega
 obtain⟨q1,q2⟩:=th hl h0 h1 a1;have b0:=hl _ (aV a1);unfold LotOk at b0;refine MV ?_;intros;rw[a6,d0 i a3];have b6:((o[i]! : Nat):Int).toNat=o[i]!:=ab;refine MV ?_;intros;rw[b6,d2];refine MV ?_;intros
 have e:((List.range l.length).map (fun k=>shQ l n k+if k∈o.take i then 1 else 0)).set o[i]! (shQ l n o[i]! + 1)=(List.range l.length).map (fun k=>shQ l n k+if k∈o.take (i+1) then 1 else 0):=by
  apply fH
  ·simp
  ·intro k h3 h4;have hk:k<l.length:=by simpa using h4
   rw[fG];simp only[eC,List.getElem_range];have m1:=lF a2 a5 (m:=i) hk;have m2:=lF a2 a5 (m:=i+1) hk;by_cases h5:o[i]! = k
   ·subst h5;have h6:lG (shR l n) l.length o[i]! = i:=by rw[getElem!_of a3];exact od a2 a5 a3
    rw[if_pos rfl,if_pos (m2.2 ab)]
   ·rw[if_neg h5];congr 1
    have h6:lG (shR l n) l.length k≠i:=by
     intro h7;refine h5 (Jt (R:=shR l n) a1 hk ?_);rw[h7,getElem!_of a3];exact od a2 a5 a3
    by_cases h7:lG (shR l n) l.length k<i
    ·rw[if_pos (m1.2 h7),if_pos (m2.2 ab)]
    ·rw[if_neg (fun h=>h7 (m1.1 h)),if_neg (fun h=>absurd (m2.1 h) ab)]
 rw[b6,e];refine⟨i+1,ab,ab,?_,by exact ah⟩;rw[bh i];exact aC
