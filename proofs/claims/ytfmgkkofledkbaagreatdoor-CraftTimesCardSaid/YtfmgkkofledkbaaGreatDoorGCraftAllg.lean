/- Lemmas and contracts of functions, in the order: Sh, Q21, Q22, Q23, E1, D2. -/
import Derived.Shelf.SlGeneric
import Derived.Shelf.SlLaysF
import Derived.Shelf.SlLaysF0
import Derived.Ground.SlsfProg
import Derived.Test.YtfmgkkofledkbaaGreatDoorProg
import Derived.Test.YtfmgkkofledkbaaGreatDoorGCraftAllf
import Derived.Test.YtfmgkkofledkbaaGreatDoorGCraftAllm
import Derived.Test.YtfmgkkofledkbaaGreatDoorGCraftAlll
set_option linter.all false
set_option maxHeartbeats 2000000
namespace Go.Proofs
open Go.Shelf
def Tryz.a6:Go.Shelf.Ren:=⟨fun|6=>65|15=>115|14=>114|28=>174|29=>175|20=>166|21=>167|22=>168|23=>169|24=>170|25=>171|26=>172|27=>173|46=>257|47=>258|48=>259|49=>260|50=>261|57=>301|n=>n,fun|22=>34|24=>3|25=>41|3=>3|39=>195|0=>0|53=>262|55=>125|4=>4|46=>256|45=>255|50=>193|5=>5|9=>9|66=>326|70=>330|76=>354|77=>355|n=>n,fun|n=>n⟩
theorem Tryz.a7:Go.Proofs.SlLaysF.n6 Tryz.prog Tryz.a6:={
 mixed:=by kernel_rfl
 f6:=⟨Tryz.f65.name,by decide,Tryz.func65.trans (congrArg some (by kernel_rfl))⟩
 f14:=⟨Tryz.f114.name,by decide,Tryz.func114.trans (congrArg some (by kernel_rfl))⟩
 f15:=Tryz.func115.trans (congrArg some (by kernel_rfl))
 f20:=⟨Tryz.f166.name,by decide,Tryz.func166.trans (congrArg some (by kernel_rfl))⟩
 f21:=⟨Tryz.f167.name,by decide,Tryz.func167.trans (congrArg some (by kernel_rfl))⟩
 f22:=⟨Tryz.f168.name,by decide,Tryz.func168.trans (congrArg some (by kernel_rfl))⟩
 f23:=⟨Tryz.f169.name,by decide,Tryz.func169.trans (congrArg some (by kernel_rfl))⟩
 f24:=⟨Tryz.f170.name,by decide,Tryz.func170.trans (congrArg some (by kernel_rfl))⟩
 f25:=⟨Tryz.f171.name,by decide,Tryz.func171.trans (congrArg some (by kernel_rfl))⟩
 f26:=⟨Tryz.f172.name,by decide,Tryz.func172.trans (congrArg some (by kernel_rfl))⟩
 f27:=⟨Tryz.f173.name,by decide,Tryz.func173.trans (congrArg some (by kernel_rfl))⟩
 f28:=Tryz.func174.trans (congrArg some (by kernel_rfl))
 f29:=Tryz.func175.trans (congrArg some (by kernel_rfl))
 f46:=⟨Tryz.f257.name,by decide,Tryz.func257.trans (congrArg some (by kernel_rfl))⟩
 f47:=Tryz.func258.trans (congrArg some (by kernel_rfl))
 f48:=Tryz.func259.trans (congrArg some (by kernel_rfl))
 f49:=⟨Tryz.f260.name,by decide,Tryz.func260.trans (congrArg some (by kernel_rfl))⟩
 f50:=⟨Tryz.f261.name,by decide,Tryz.func261.trans (congrArg some (by kernel_rfl))⟩
 f57:=⟨Tryz.f301.name,by decide,Tryz.func301.trans (congrArg some (by kernel_rfl))⟩
 t0:=Tryz.underlying0
 a0:=Tryz.isAgg0
 z0:=Tryz.sizeOf0
 v0:=Tryz.zeroValue0
 t3:=Tryz.underlying3
 a3:=Tryz.isAgg3
 z3:=Tryz.sizeOf3
 v3:=Tryz.zeroValue3
 t4:=Tryz.underlying4
 a4:=Tryz.isAgg4
 z4:=Tryz.sizeOf4
 v4:=Tryz.zeroValue4
 t5:=Tryz.underlying5
 a5:=Tryz.isAgg5
 z5:=Tryz.sizeOf5
 v5:=Tryz.zeroValue5
 t9:=Tryz.underlying9
 a9:=Tryz.isAgg9
 z9:=Tryz.sizeOf9
 v9:=Tryz.zeroValue9
 t22:=Tryz.underlying34
 a22:=Tryz.isAgg34
 z22:=Tryz.sizeOf34
 v22:=Tryz.zeroValue34
 a24:=Tryz.isAgg3
 z24:=Tryz.sizeOf3
 t25:=Tryz.underlying41
 a25:=Tryz.isAgg41
 z25:=Tryz.sizeOf41
 v25:=Tryz.zeroValue41
 t39:=Tryz.underlying195
 a39:=Tryz.isAgg195
 z39:=Tryz.sizeOf195
 v39:=Tryz.zeroValue195
 t45:=Tryz.underlying255
 a45:=Tryz.isAgg255
 z45:=Tryz.sizeOf255
 v45:=Tryz.zeroValue255
 t46:=Tryz.underlying256
 a46:=Tryz.isAgg256
 z46:=Tryz.sizeOf256
 v46:=Tryz.zeroValue256
 t50:=Tryz.underlying193
 a50:=Tryz.isAgg193
 z50:=Tryz.sizeOf193
 v50:=Tryz.zeroValue193
 t53:=Tryz.underlying262
 a53:=Tryz.isAgg262
 z53:=Tryz.sizeOf262
 v53:=Tryz.zeroValue262
 t55:=Tryz.underlying125
 a55:=Tryz.isAgg125
 z55:=Tryz.sizeOf125
 v55:=Tryz.zeroValue125
 t66:=Tryz.underlying326
 a66:=Tryz.isAgg326
 z66:=Tryz.sizeOf326
 v66:=Tryz.zeroValue326
 t70:=Tryz.underlying330
 a70:=Tryz.isAgg330
 z70:=Tryz.sizeOf330
 v70:=Tryz.zeroValue330
 t76:=Tryz.underlying354
 a76:=Tryz.isAgg354
 z76:=Tryz.sizeOf354
 v76:=Tryz.zeroValue354
 t77:=Tryz.underlying355
 a77:=Tryz.isAgg355
 z77:=Tryz.sizeOf355
 v77:=Tryz.zeroValue355 }
def Tryz.a8:Go.Shelf.Ren:=⟨fun|6=>75|15=>115|14=>120|28=>174|29=>175|20=>177|21=>178|22=>179|23=>180|24=>181|25=>182|26=>183|27=>184|46=>264|47=>258|48=>259|49=>265|50=>266|57=>304|n=>n,fun|22=>77|24=>161|25=>163|3=>3|39=>195|0=>0|53=>262|55=>125|4=>4|46=>256|45=>255|50=>193|5=>5|9=>9|66=>326|70=>330|76=>354|77=>355|n=>n,fun|n=>n⟩
theorem Tryz.c6:Go.Proofs.SlLaysF0.n6 Tryz.prog Tryz.a8:={
 mixed:=by kernel_rfl
 f6:=⟨Tryz.f75.name,by decide,Tryz.func75.trans (congrArg some (by kernel_rfl))⟩
 f14:=⟨Tryz.f120.name,by decide,Tryz.func120.trans (congrArg some (by kernel_rfl))⟩
 f15:=Tryz.func115.trans (congrArg some (by kernel_rfl))
 f20:=⟨Tryz.f177.name,by decide,Tryz.func177.trans (congrArg some (by kernel_rfl))⟩
 f21:=⟨Tryz.f178.name,by decide,Tryz.func178.trans (congrArg some (by kernel_rfl))⟩
 f22:=⟨Tryz.f179.name,by decide,Tryz.func179.trans (congrArg some (by kernel_rfl))⟩
 f23:=⟨Tryz.f180.name,by decide,Tryz.func180.trans (congrArg some (by kernel_rfl))⟩
 f24:=⟨Tryz.f181.name,by decide,Tryz.func181.trans (congrArg some (by kernel_rfl))⟩
 f25:=⟨Tryz.f182.name,by decide,Tryz.func182.trans (congrArg some (by kernel_rfl))⟩
 f26:=⟨Tryz.f183.name,by decide,Tryz.func183.trans (congrArg some (by kernel_rfl))⟩
 f27:=⟨Tryz.f184.name,by decide,Tryz.func184.trans (congrArg some (by kernel_rfl))⟩
 f28:=Tryz.func174.trans (congrArg some (by kernel_rfl))
 f29:=Tryz.func175.trans (congrArg some (by kernel_rfl))
 f46:=⟨Tryz.f264.name,by decide,Tryz.func264.trans (congrArg some (by kernel_rfl))⟩
 f47:=Tryz.func258.trans (congrArg some (by kernel_rfl))
 f48:=Tryz.func259.trans (congrArg some (by kernel_rfl))
 f49:=⟨Tryz.f265.name,by decide,Tryz.func265.trans (congrArg some (by kernel_rfl))⟩
 f50:=⟨Tryz.f266.name,by decide,Tryz.func266.trans (congrArg some (by kernel_rfl))⟩
 f57:=⟨Tryz.f304.name,by decide,Tryz.func304.trans (congrArg some (by kernel_rfl))⟩
 t0:=Tryz.underlying0
 a0:=Tryz.isAgg0
 z0:=Tryz.sizeOf0
 v0:=Tryz.zeroValue0
 t3:=Tryz.underlying3
 a3:=Tryz.isAgg3
 z3:=Tryz.sizeOf3
 v3:=Tryz.zeroValue3
 t4:=Tryz.underlying4
 a4:=Tryz.isAgg4
 z4:=Tryz.sizeOf4
 v4:=Tryz.zeroValue4
 t5:=Tryz.underlying5
 a5:=Tryz.isAgg5
 z5:=Tryz.sizeOf5
 v5:=Tryz.zeroValue5
 t9:=Tryz.underlying9
 a9:=Tryz.isAgg9
 z9:=Tryz.sizeOf9
 v9:=Tryz.zeroValue9
 t22:=Tryz.underlying77
 a22:=Tryz.isAgg77
 z22:=Tryz.sizeOf77
 v22:=Tryz.zeroValue77
 t25:=Tryz.underlying163
 a25:=Tryz.isAgg163
 z25:=Tryz.sizeOf163
 v25:=Tryz.zeroValue163
 t39:=Tryz.underlying195
 a39:=Tryz.isAgg195
 z39:=Tryz.sizeOf195
 v39:=Tryz.zeroValue195
 t45:=Tryz.underlying255
 a45:=Tryz.isAgg255
 z45:=Tryz.sizeOf255
 v45:=Tryz.zeroValue255
 t46:=Tryz.underlying256
 a46:=Tryz.isAgg256
 z46:=Tryz.sizeOf256
 v46:=Tryz.zeroValue256
 t50:=Tryz.underlying193
 a50:=Tryz.isAgg193
 z50:=Tryz.sizeOf193
 v50:=Tryz.zeroValue193
 t53:=Tryz.underlying262
 a53:=Tryz.isAgg262
 z53:=Tryz.sizeOf262
 v53:=Tryz.zeroValue262
 t55:=Tryz.underlying125
 a55:=Tryz.isAgg125
 z55:=Tryz.sizeOf125
 v55:=Tryz.zeroValue125
 t66:=Tryz.underlying326
 a66:=Tryz.isAgg326
 z66:=Tryz.sizeOf326
 v66:=Tryz.zeroValue326
 t70:=Tryz.underlying330
 a70:=Tryz.isAgg330
 z70:=Tryz.sizeOf330
 v70:=Tryz.zeroValue330
 t76:=Tryz.underlying354
 a76:=Tryz.isAgg354
 z76:=Tryz.sizeOf354
 v76:=Tryz.zeroValue354
 t77:=Tryz.underlying355
 a77:=Tryz.isAgg355
 z77:=Tryz.sizeOf355
 v77:=Tryz.zeroValue355 }
end Go.Proofs
namespace Go.Proofs.YtfmgkkofledkbaaGreatDoor
open Go.V
attribute [local irreducible] G GO GP GPW GPK Ev Ef EfR Ent CB GB Enters
section
def cmpI (a b:Int):Int:=if a<b then -1 else if b<a then 1 else 0
theorem kJ {φ ψ:Prop} (k:ψ) (h:Hid ψ→φ:=by intro k;first|((with_reducible apply GO.a6);refine GO.c6 tS Tryz.func116 rfl rfl rfl rfl (by simp) ac (Hid.out k))|((with_reducible apply GPW.a6);refine GPW.c6 tS Tryz.func116 rfl rfl rfl rfl (by simp) ac (Hid.out k))|((with_reducible apply GO.a6);refine GO.a7 rfl tS Tryz.func116 rfl rfl rfl rfl (by simp) ac (Hid.out k))|((with_reducible apply GPW.a6);refine GPW.a8 rfl tS Tryz.func116 rfl rfl rfl rfl (by simp) ac (Hid.out k))|((with_reducible apply KX.c7);first|refine KX.in0 (.inl rfl) (Hid.out k)|refine KX.in0 (.inr rfl) (Hid.out k)|refine KX.in1 (.inl rfl) rfl (Hid.out k)|refine KX.in2 (.inl rfl) rfl rfl (Hid.out k)|refine KX.in3 (.inl rfl) rfl rfl rfl (Hid.out k)|refine KX.inC (.inl rfl) rfl (by rfl) (Hid.out k)|refine KX.c6 (.inl rfl) rfl (by rfl) rfl (Hid.out k))):φ:=h ⟨k⟩
theorem ig {L:List HP} (a b:Int):Tri Tryz.prog 68 #[.int .i64 a,.int .i64 b] L (fun v L'=>v=.int .i64 (cmpI a b)∧L' = L):=by
 refine Tri.body (args:=[.int .i64 a,.int .i64 b]) 20 en68 Tryz.func68 rfl rfl rfl (by simp) ?_
 unfold cmpI
 by_cases h1:a<b
 ·rw [if_pos h1]
  repeat first|refine aa ?_|intro _|refine kJ ?_
  exact KX.a6 ai (Ent.refl _) ⟨rfl,rfl⟩
 rw [if_neg h1]
 by_cases h2:b<a
 ·rw [if_pos h2]
  repeat first|refine aa ?_|intro _|refine kJ ?_
  exact KX.a6 ai (Ent.refl _) ⟨rfl,rfl⟩
 rw [if_neg h2]
 repeat first|refine aa ?_|intro _|refine kJ ?_
 exact KX.a6 ai (Ent.refl _) ⟨rfl,rfl⟩
theorem kI {φ ψ:Prop} (k:ψ) (h:Hid ψ→φ:=by intro k;first|((with_reducible apply GO.a6);refine GO.c6 tP Tryz.func364 rfl rfl rfl rfl (by simp) ac (Hid.out k))|((with_reducible apply GPW.a6);refine GPW.c6 tP Tryz.func364 rfl rfl rfl rfl (by simp) ac (Hid.out k))|((with_reducible apply GO.a6);refine GO.a7 rfl tP Tryz.func364 rfl rfl rfl rfl (by simp) ac (Hid.out k))|((with_reducible apply GPW.a6);refine GPW.a8 rfl tP Tryz.func364 rfl rfl rfl rfl (by simp) ac (Hid.out k))|((with_reducible apply KX.c7);first|refine KX.in0 (.inl rfl) (Hid.out k)|refine KX.in0 (.inr rfl) (Hid.out k)|refine KX.in1 (.inl rfl) rfl (Hid.out k)|refine KX.in2 (.inl rfl) rfl rfl (Hid.out k)|refine KX.in3 (.inl rfl) rfl rfl rfl (Hid.out k)|refine KX.inC (.inl rfl) rfl (by rfl) (Hid.out k)|refine KX.c6 (.inl rfl) rfl (by rfl) rfl (Hid.out k))):φ:=h ⟨k⟩
theorem CW {L:List HP} (a b:Int):Tri Tryz.prog 353 #[.int .u64 a,.int .u64 b] L (fun v L'=>v=.int .i64 (cmpI a b)∧L' = L):=by
 refine Tri.body (args:=[.int .u64 a,.int .u64 b]) 20 Gl Tryz.func353 rfl rfl rfl (by simp) ?_
 unfold cmpI
 by_cases h1:a<b
 ·rw [if_pos h1]
  repeat first|refine aa ?_|intro _|refine kI ?_
  exact KX.a6 ai (Ent.refl _) ⟨rfl,rfl⟩
 rw [if_neg h1]
 by_cases h2:b<a
 ·rw [if_pos h2]
  repeat first|refine aa ?_|intro _|refine kI ?_
  exact KX.a6 ai (Ent.refl _) ⟨rfl,rfl⟩
 rw [if_neg h2]
 repeat first|refine aa ?_|intro _|refine kI ?_
 exact KX.a6 ai (Ent.refl _) ⟨rfl,rfl⟩
def orI (a b:Int):Int:=if a=0 then b else a
theorem mw {L:List HP} (ad:Option Addr) (c:Nat) (a b:Int) [Rds L ad Int (encZ .i64) 1 [a,b]]:Tri Tryz.prog 67 #[.slice ad 2 c] L (fun v L'=>v=.int .i64 (orI a b)∧L' = L):=by
 have hl:([a,b]:List Int).length=2:=rfl
 have h0:([a,b]:List Int)[(0:Int).toNat]! = a:=rfl
 have h1:([a,b]:List Int)[((0:Int)+1).toNat]! = b:=rfl
 unfold orI
 refine Tri.body (args:=[.slice ad 2 c]) 18 en67 Tryz.func67 rfl rfl rfl (by simp) ?_
 repeat first|refine aa ?_|intro _
 refine G.d7 3 (GR.step ?_)
 repeat first|refine aa ?_|intro _
 rw [h0]
 by_cases ha:a=0
 case neg =>
  rw [if_neg ha]
  repeat first|refine aa ?_|intro _
  exact KX.a6 ai (Ent.refl _) ⟨rfl,rfl⟩
 rw [if_pos ha]
 repeat first|refine aa ?_|intro _
 refine GR.step ?_
 repeat first|refine aa ?_|intro _
 rw [h1]
 by_cases hb:b=0
 case neg =>
  repeat first|refine aa ?_|intro _
  exact KX.a6 ai (Ent.refl _) ⟨rfl,rfl⟩
 repeat first|refine aa ?_|intro _
 refine GR.step ?_
 repeat first|refine aa ?_|intro _
 exact KX.a6 ai (Ent.refl _) ⟨by rw [hb];rfl,rfl⟩
def ib (n:Int):Prop:=0≤n∧n≤1099511627776
instance:DecidablePred ib:=fun n=>by unfold ib;infer_instance
theorem jS {L:List HP} (n:Int):Tri Tryz.prog 350 #[.int .i64 n] L (fun v L'=>v=.bool (dB (ib n))∧L' = L):=by
 refine Tri.body (args:=[.int .i64 n]) 9 Gn Tryz.func350 rfl rfl rfl (by simp) ?_
 by_cases h1:0≤n
 ·by_cases h2:n≤1099511627776
  ·repeat first|refine aa ?_|intro _
   exact KX.a6 ai (Ent.refl _) ⟨by rw [aw h2,aw (show ib n from ⟨h1,h2⟩)];rfl,rfl⟩
  ·repeat first|refine aa ?_|intro _
   exact KX.a6 ai (Ent.refl _) ⟨by rw [an h2,an (fun h:ib n=>h2 h.2)];rfl,rfl⟩
 ·repeat first|refine aa ?_|intro _
  exact KX.a6 ai (Ent.refl _) ⟨by rw [an (fun h:ib n=>h1 h.1)];rfl,rfl⟩
def jM (n:Int):Prop:=0≤n∧n≤1152921504606846976
instance:DecidablePred jM:=fun n=>by unfold jM;infer_instance
theorem nI {L:List HP} (n:Int):Tri Tryz.prog 361 #[.int .i64 n] L (fun v L'=>v=.bool (dB (jM n))∧L' = L):=by
 refine Tri.body (args:=[.int .i64 n]) 9 Gk Tryz.func361 rfl rfl rfl (by simp) ?_
 by_cases h1:0≤n
 ·by_cases h2:n≤1152921504606846976
  ·repeat first|refine aa ?_|intro _
   exact KX.a6 ai (Ent.refl _) ⟨by rw [aw h2,aw (show jM n from ⟨h1,h2⟩)];rfl,rfl⟩
  ·repeat first|refine aa ?_|intro _
   exact KX.a6 ai (Ent.refl _) ⟨by rw [an h2,an (fun h:jM n=>h2 h.2)];rfl,rfl⟩
 ·repeat first|refine aa ?_|intro _
  exact KX.a6 ai (Ent.refl _) ⟨by rw [an (fun h:jM n=>h1 h.1)];rfl,rfl⟩
theorem uh {L:List HP} (total num den:Nat) (h1:total≤1099511627776) (h2:num≤1152921504606846976) (h3:den≤1152921504606846976) (h0:0<den) (hq:total*num / den≤1099511627776) :
  Tri Tryz.prog 351 #[.int .i64 (total:Int),.int .i64 (num:Int),.int .i64 (den:Int)] L (fun v L'=>v=.tuple #[.int .u64 ((total*num / den:Nat):Int),.int .u64 ((total*num % den:Nat):Int),.int .i64 0]∧L' = L):=by
 have e:=Nat.div_add_mod (total*num) 18446744073709551616
 rw [Nat.mul_comm] at e
 have hhi:total*num / 18446744073709551616<den:=by
  rw [Nat.div_lt_iff_lt_mul ac]
  have h4:=Nat.lt_div_mul_add (a:=total*num) h0
  have h5:total*num / den*den≤1099511627776*den:=Nat.mul_le_mul_right _ hq
  omega
 have hlo:=Nat.mod_lt (total*num) (show 0<18446744073709551616 by decide)
 refine Tri.body (args:=[.int .i64 (total:Int),.int .i64 (num:Int),.int .i64 (den:Int)]) 52 Gm Tryz.func351 rfl rfl rfl (by simp) ?_
 repeat first|refine aa ?_|intro _
 refine GO.ef (Ef.a6 (jS (total:Int)) rfl) ac ?_
 rintro _ L ⟨rfl,rfl⟩
 rw [aw (show ib (total:Int) from ⟨ab,ab⟩)]
 repeat first|refine aa ?_|intro _
 refine GO.ef (Ef.a6 (nI (num:Int)) rfl) ac ?_
 rintro _ L ⟨rfl,rfl⟩
 rw [aw (show jM (num:Int) from ⟨ab,ab⟩)]
 repeat first|refine aa ?_|intro _
 refine GO.ef (Ef.a6 (nI (den:Int)) rfl) ac ?_
 rintro _ L ⟨rfl,rfl⟩
 rw [aw (show jM (den:Int) from ⟨ab,ab⟩)]
 repeat first|refine aa ?_|intro _
 refine GO.ef (Ef.a6 (AN total num ab ab) rfl) ac ?_
 rintro _ L ⟨rfl,rfl⟩
 repeat first|refine aa ?_|intro _
 refine GO.ef (Ef.a6 (Bm (total*num / 18446744073709551616) (total*num % 18446744073709551616) den hhi hlo ab) rfl) ac ?_
 rintro _ L ⟨rfl,rfl⟩
 rw [e]
 repeat first|refine aa ?_|intro _
 exact KX.a6 ai (Ent.refl _) ⟨rfl,rfl⟩
def dO (n i:Nat) (f:Nat→Int):List Int:=(List.range n).map (fun k=>if k<i then f k else 0)
theorem iI (n i:Nat) (f:Nat→Int):(dO n i f).length=n:=by simp [dO]
theorem hU (n:Nat) (f:Nat→Int):dO n 0 f=List.replicate n 0:=by
 apply List.ext_getElem
 ·simp [dO]
 ·intro i h1 h2;simp [dO]
theorem iH {n i:Nat} (f:Nat→Int) (h:i<n):(dO n i f).set i (f i)=dO n (i+1) f:=by
 apply List.ext_getElem
 ·simp [dO]
 ·intro j h1 h2
  rw [List.getElem_set]
  simp only [dO,List.getElem_map,List.getElem_range]
  by_cases hj:i=j
  ·subst hj;simp
  ·rw [if_neg hj]
   by_cases h3:j<i
   ·rw [if_pos h3,if_pos ab]
   ·rw [if_neg h3,if_neg ab]
theorem iJ (n:Nat) (f:Nat→Int):dO n n f=(List.range n).map f:=by
 apply List.map_congr_left
 intro k hk
 rw [if_pos (List.mem_range.1 hk)]
def shCf (rs:List Int) (i j:Nat):Int:=orI (cmpI rs[j]! rs[i]!) (cmpI i j)
theorem EQ (rs:List Int) (i j:Nat):shCf rs i j<0↔rs[j]! < rs[i]!∨(rs[j]! = rs[i]!∧i<j):=by
 unfold shCf orI cmpI
 generalize rs[j]! = x
 generalize rs[i]! = y
 by_cases h1:x<y
 ·rw [if_pos h1,if_neg ac]
  omega
 ·rw [if_neg h1]
  by_cases h2:y<x
  ·rw [if_pos h2,if_neg ac]
   omega
  ·rw [if_neg h2,if_pos rfl]
   split
   ·omega
   ·split<;>omega
abbrev xq:List Stp:=[.ev 0,.ev 1,.ev 2,.ev 3,.ev 4,.ev 5,.ev 6,.ev 7,.ev 9,.ev 10,.ef 8,.ef 11,.ef 12,.ef 13,.ev 14]
theorem fW {φ ψ:Prop} (k:ψ) (h:Hid ψ→φ:=by intro k;(with_reducible apply G.a7);first|refine G.a6 (N:=20) (id:=1) xq mixed ah (Hid.out k)):φ:=h ⟨k⟩
theorem wg (b:Nat) (ad:Option Addr) (c:Nat) (rs:List Int) (i j:Nat) (hi:i<rs.length) (hj:j<rs.length) (hl:rs.length≤1000000) :
  Tri Tryz.prog 352 #[.int .i64 (i:Int),.int .i64 (j:Int),.pointer (some ⟨b,0,none⟩)] [isl oz 1 (some ⟨b,0,none⟩) [⟨ad,rs.length,c⟩],isl (encZ .u64) 1 ad rs] (fun u _=>u=.int .i64 (shCf rs i j)):=by
 have hii:(i:Int).toNat=i:=ab
 have hjj:(j:Int).toNat=j:=ab
 have hl1:([⟨ad,rs.length,c⟩]:List SlV).length=1:=rfl
 refine Tri.body (args:=[.int .i64 (i:Int),.int .i64 (j:Int),.pointer (some ⟨b,0,none⟩)]) 20 Ew Tryz.func352 rfl rfl rfl (by simp) ?_
 repeat first|refine aa ?_|intro _|refine fW ?_
 refine GPW.evL (Ev.e8 (enc:=oz) (xs:=[⟨ad,rs.length,c⟩]) (j:=0) (o:=0) rfl rfl (by simp) ac (show _=some (.slice ad rs.length c) from rfl)) ac ?_
 repeat first|refine aa ?_|intro _|refine fW ?_
 refine GPW.evL (Ev.e8 (enc:=oz) (xs:=[⟨ad,rs.length,c⟩]) (j:=0) (o:=0) rfl rfl (by simp) ac (show _=some (.slice ad rs.length c) from rfl)) ac ?_
 repeat first|refine aa ?_|intro _|refine fW ?_
 rw [hii,hjj]
 refine GPW.ef (Ef.a6 (CW rs[j]! rs[i]!) rfl) ac ?_
 rintro _ _ ⟨rfl,rfl⟩
 repeat first|refine aa ?_|intro _|refine fW ?_
 refine GPW.ef (Ef.a6 (ig (i:Int) (j:Int)) rfl) ac ?_
 rintro _ _ ⟨rfl,rfl⟩
 repeat first|refine aa ?_|intro _|refine fW ?_
 rename_i b2
 refine GPW.ent (Ent.c6 (enc:=encZ .i64) (sz:=1) (xs:=[cmpI rs[j]! rs[i]!,cmpI (i:Int) (j:Int)]) rfl rfl (fun _ _=>rfl) (by simp)) ?_
 refine GPW.ef (Ef.a6 (mw (some ⟨b2,0,none⟩) 2 (cmpI rs[j]! rs[i]!) (cmpI (i:Int) (j:Int))) rfl) ac ?_
 rintro _ _ ⟨rfl,rfl⟩
 repeat first|refine aa ?_|intro _|refine fW ?_
 exact KX.a6 ai (Ent.refl _) rfl
end
end Go.Proofs.YtfmgkkofledkbaaGreatDoor
namespace Go.Proofs.YtfmgkkofledkbaaGreatDoor
open Go.V
attribute [local irreducible] G GO GP GPW GPK Ev Ef EfR Ent CB GB V.Enters
section
theorem rO {α β:Type} {e1:α→List Value} {e2:β→List Value} {s1 s2:Nat} {a1 a2:Option Addr} {x1:List α} {x2:List β}:∀ ι h,Stars [isl e1 s1 a1 x1,isl e2 s2 a2 x2] ι h→Stars [isl e1 s1 a1 x1,isl e2 s2 a2 x2] ι Hp.emp:=by
 rintro ι h ⟨ι₀,h₁,h₂,a,b,c,d,e,ι₁,h₃,h₄,a',b',c',d',e',f'⟩
 exact ⟨ι₀,Hp.emp,Hp.emp,a,Hp.a7 _,Hp.a6 _,Hp.a6 _,e,ι₁,Hp.emp,Hp.emp,a',Hp.a7 _,Hp.a6 _,Hp.a6 _,e',trivial⟩
def wts (l:List Lot):List Int:=l.map (fun x=>x.2.2)
theorem ry (l:List Lot):(wts l).length=l.length:=by simp [wts]
theorem lx {l:List Lot} {k:Nat} (h:k<l.length):(wts l)[k]! = l[k]!.2.2:=ek _ h
theorem jE {l:List Lot} {n:Int} (hl:∀ x∈l,LotOk x) (h0:0≤n) (h1:n≤lsum l) {k:Nat} (hk:k<l.length):0≤shQ l n k∧shQ l n k≤l[k]!.2.2:=by
 have hs:=jj hl hk
 have hw:=hl _ (ap hk)
 unfold LotOk at hw
 refine ⟨Int.ediv_nonneg (Int.mul_nonneg h0 ab) ab,?_⟩
 unfold shQ
 refine Int.ediv_le_of_le_mul hs ?_
 rw [Int.mul_comm]
 exact Int.mul_le_mul_of_nonneg_left h1 ab
theorem tu {L:List HP} (n w s:Int) (h0:0≤n) (h1:n≤1099511627776) (h2:0≤w) (h3:w≤1152921504606846976) (h4:0<s) (h5:s≤1152921504606846976) (hq:n*w / s≤1099511627776) :
  Tri Tryz.prog 351 #[.int .i64 n,.int .i64 w,.int .i64 s] L (fun v L'=>v=.tuple #[.int .u64 (n*w / s),.int .u64 (n*w % s),.int .i64 0]∧L' = L):=by
 obtain ⟨nN,rfl⟩:∃ nN:Nat,n=(nN:Int):=⟨n.toNat,ab⟩
 obtain ⟨wN,rfl⟩:∃ wN:Nat,w=(wN:Int):=⟨w.toNat,ab⟩
 obtain ⟨sN,rfl⟩:∃ sN:Nat,s=(sN:Int):=⟨s.toNat,ab⟩
 have e1:(nN:Int)*(wN:Int) / (sN:Int)=((nN*wN / sN:Nat):Int):=by rw [Int.natCast_ediv,Int.natCast_mul]
 have e2:(nN:Int)*(wN:Int) % (sN:Int)=((nN*wN % sN:Nat):Int):=by rw [Int.natCast_emod,Int.natCast_mul]
 rw [e1] at hq
 rw [e1,e2]
 exact uh nN wN sN ab ab ab ab ab
theorem ug {E cap:Nat} {ad:Option Addr} {α:Type} [Inhabited α] {enc:α→Value} (h1:OneCell enc) {xs:List α} {Lc:List HP} {g:Nat} {cb:Array Value} (cf:α→α→Int) (hO:Go.Sort.SWO (ltOf cf)) (heg:V.Enters Tryz.prog g) (hpers:∀ ι h,Stars Lc ι h→Stars Lc ι Hp.emp) (hcmp:∀ x y:α,Tri Tryz.prog g (#[enc x,enc y]++cb) Lc (fun u _=>u=.int .i64 (cf x y))) (hsz:xs.length<4611686018427387904) :
  Tri Tryz.prog 65 #[.slice ad xs.length cap,.func (.func g) #[] cb] (osl (fun x=>[enc x]) 1 E ad cap xs::Lc) (fun v L'=>v=.tuple #[]∧∃ ys,eT cf xs ys∧L' = osl (fun x=>[enc x]) 1 E ad cap ys::Lc) :=
 Tri.c7 (ρ:=Tryz.a6) Tryz.a7 { Tryz.a7 with } h1 cf hO en65 heg hpers hcmp hsz
theorem nP (n:Nat):(List.finRange n).map (fun i=>i.val)=List.range n:=by
 apply List.ext_getElem
 ·simp
 ·intro i h1 h2;simp
theorem dZ {f:Nat→Int} {n k:Nat} (h:k<n):((List.range n).map f)[k]! = f k:=by
 rw [getElem!_of (by simpa using h)]
 simp
def tN (R:Nat→Int) (n:Nat) (i j:Fin n):Int:=shCf ((List.range n).map R) i.val j.val
theorem lW (R:Nat→Int) (n:Nat) (i j:Fin n):tN R n i j<0↔R j.val<R i.val∨(R j.val=R i.val∧i.val<j.val):=by
 unfold tN
 rw [EQ,dZ i.isLt,dZ j.isLt]
theorem BM (R:Nat→Int) (n:Nat):Go.Sort.SWO (ltOf (tN R n)) where
 irrefl x:=by simp only [ltOf,decide_eq_false_iff_not];rw [lW];omega
 trans x y z h1 h2:=by simp only [ltOf,decide_eq_true_eq] at *;rw [lW] at *;omega
 ntrans x y z h1 h2:=by simp only [ltOf,decide_eq_false_iff_not] at *;rw [lW] at *;omega
abbrev tU64:Nat:=125
abbrev zh:Nat:=370
abbrev uG:List Stp:=[.ev 0,.ev 1,.ev 2,.ev 3,.ev 4,.ev 5,.ev 6,.ev 7,.ev 8,.ev 9,.ev 10,.ef 11,.ev 12,.ef 13,.ev 14,.ef 15]
theorem cc {φ ψ:Prop} (k:ψ) (h:Hid ψ→φ:=by intro k;(with_reducible apply G.a7);first|refine G.a6 (N:=100) (id:=23) uG mixed ah (Hid.out k)):φ:=h ⟨k⟩
theorem zj {L:List HP} (ad:Option Addr) (c:Nat) (l:List Lot) (n:Int) [hrd:Rds L ad Int (encZ .i64) 1 (wts l)] (hll:l.length≤4096) (hl:∀ x∈l,LotOk x) (hne:l≠[]) (h0:0≤n) (h1:n≤lsum l) (h2:n≤1099511627776) :
  Tri Tryz.prog 331 #[.int .i64 n,.slice ad l.length c] L (fun v L'=>∃ ad' cap',v=.tuple #[.slice ad' l.length cap',.int .i64 0]∧L' = osl (encZ .i64) 1 tInt ad' cap' ((List.range l.length).map (shC l n))::L):=by
 have hlen:0<l.length:=List.length_pos_iff.2 hne
 have hwl:=ry l
 have hs:=jj hl hlen
 have hsb:=fg hl l.length (Nat.le_refl _)
 rw [fk] at hsb
 have hm:(l.length:Int)*1099511627776≤4096*1099511627776:=Int.mul_le_mul_of_nonneg_right ab ac
 refine Tri.body (args:=[.int .i64 n,.slice ad l.length c]) 100 Gu Tryz.func331 rfl rfl rfl (by simp) ?_
 repeat first|refine aa ?_|intro _|refine cc ?_
 refine GO.ef (Ef.a6 (jS n) rfl) ac ?_
 rintro _ L ⟨rfl,rfl⟩
 rw [aw (show ib n from ⟨h0,h2⟩)]
 repeat first|((fail_if_success (with_reducible refine G.c7 4 ?_));(with_reducible apply G.seq))|refine aL ?_|intro _|refine cc ?_
 refine G.a8 (α:=Unit) (fun _=>True) (fun _=>[(0,.int .i64 n),(1,.slice ad l.length c),(6,.int .i64 (lsum l))]) (fun _=>L) ?_ ?_
 ·repeat first|refine aa ?_|intro _|refine cc ?_
  refine G.loop (α:=Nat) (fun i=>i≤l.length) (fun i=>[(0,.int .i64 n),(1,.slice ad l.length c),(6,.int .i64 (lsum (l.take i))),(21,.slice ad l.length c),(22,.int .i64 l.length),(23,.int .i64 (i:Int))]) (fun _=>L) (fun i=>l.length - i) 0 (Nat.zero_le _) aj (Ent.refl _) ?_
  intro i hi
  by_cases hlt:i<l.length
  case neg =>
   have hin:i=l.length:=ab
   subst hin
   rw [fk]
   repeat first|refine aa ?_|intro _|refine cc ?_
   exact ⟨(),trivial,aj,Ent.refl _⟩
  have hii:(i:Int).toNat=i:=ab
  have hok:=hl _ (ap hlt)
  unfold LotOk at hok
  have hb1:=fg hl i ab
  have hb2:=dL l hlt
  have hm2:(i:Int)*1099511627776≤4096*1099511627776:=Int.mul_le_mul_of_nonneg_right ab ac
  repeat first|refine aa ?_|intro _|refine cc ?_
  rw [hii,lx hlt]
  refine GO.ef (Ef.a6 (jS l[i]!.2.2) rfl) ac ?_
  rintro _ L ⟨rfl,rfl⟩
  rw [aw (show ib l[i]!.2.2 from ⟨ab,ab⟩)]
  repeat first|refine aa ?_|intro _|refine cc ?_
  refine ⟨i+1,ab,ab,?_,Ent.refl _⟩
  rw [hb2,show ((i+1:Nat):Int)=(i:Int)+1 by omega]
  exact aj
 rintro _ _
 repeat first|refine aa ?_|intro _|refine cc ?_
 refine GO.ef (Ef.makeSlice (encZ .i64) 0 rfl rfl rfl ab ab ab) ac ?_
 rintro _ _ ⟨bp,rfl,rfl⟩
 rw [Int.toNat_natCast,← hU l.length (shQ l n)]
 repeat first|refine aa ?_|intro _|refine cc ?_
 refine GO.ef (Ef.makeSlice (encZ .u64) 0 rfl rfl rfl ab ab ab) ac ?_
 rintro _ _ ⟨br,rfl,rfl⟩
 rw [Int.toNat_natCast,← hU l.length (shR l n)]
 repeat first|refine aa ?_|intro _|refine cc ?_
 rename_i bv
 refine GO.ef (Ef.makeSlice (encZ .i64) 0 rfl rfl rfl ab ab ab) ac ?_
 rintro _ _ ⟨bo,rfl,rfl⟩
 rw [Int.toNat_natCast,← hU l.length (fun k:Nat=>(k:Int))]
 repeat first|((fail_if_success (with_reducible refine G.c7 19 ?_));(with_reducible apply G.seq))|refine aL ?_|intro _|refine cc ?_
 refine G.a8 (α:=Unit) (fun _=>True) (fun _=>[(9,.slice (some ⟨bp,0,none⟩) l.length l.length),(10,.pointer (some ⟨bv,0,none⟩)),(11,.slice (some ⟨bo,0,none⟩) l.length l.length),(12,.int .i64 (dD l n))])
  (fun _=>osl (encZ .i64) 1 tInt (some ⟨bp,0,none⟩) l.length ((List.range l.length).map (shQ l n))::obj bv zh [.slice (some ⟨br,0,none⟩) l.length l.length]::osl (encZ .u64) 1 tU64 (some ⟨br,0,none⟩) l.length ((List.range l.length).map (shR l n))::osl (encZ .i64) 1 tInt (some ⟨bo,0,none⟩) l.length ((List.range l.length).map (fun k:Nat=>(k:Int)))::L) ?_ ?_
 ·repeat first|refine aa ?_|intro _|refine cc ?_
  refine G.loop (α:=Nat) (fun i=>i≤l.length) (fun i=>[(0,.int .i64 n),(1,.slice ad l.length c),(6,.int .i64 (lsum l)),(9,.slice (some ⟨bp,0,none⟩) l.length l.length),(10,.pointer (some ⟨bv,0,none⟩)),(11,.slice (some ⟨bo,0,none⟩) l.length l.length),(12,.int .i64 (n - bQ i (shQ l n))),(49,.int .i64 l.length),(50,.int .i64 (i:Int))])
   (fun i=>osl (encZ .i64) 1 tInt (some ⟨bp,0,none⟩) l.length (dO l.length i (shQ l n))::obj bv zh [.slice (some ⟨br,0,none⟩) l.length l.length]::osl (encZ .u64) 1 tU64 (some ⟨br,0,none⟩) l.length (dO l.length i (shR l n))::osl (encZ .i64) 1 tInt (some ⟨bo,0,none⟩) l.length (dO l.length i (fun k:Nat=>(k:Int)))::L) (fun i=>l.length - i) 0 (Nat.zero_le _) ?_ ae ?_
  ·rw [iP,Int.sub_zero]
   exact aj
  intro i hi
  have hf1:=iI l.length i (shQ l n)
  have hf2:=iI l.length i (shR l n)
  have hf3:=iI l.length i (fun k:Nat=>(k:Int))
  by_cases hlt:i<l.length
  case neg =>
   have hin:i=l.length:=ab
   subst hin
   rw [iJ,iJ,iJ,← jF]
   repeat first|refine aa ?_|intro _|refine cc ?_
   exact ⟨(),trivial,aj,by exact ae⟩
  have hii:(i:Int).toNat=i:=ab
  have hok:=hl _ (ap hlt)
  unfold LotOk at hok
  have hsq:0≤bQ i (shQ l n)∧bQ i (shQ l n)≤lsum (l.take i):=by
   rw [show lsum (l.take i)=bQ i (fun k=>l[k]!.2.2) by unfold bQ;rw [ml l i hi]]
   refine ⟨?_,lS (fun k hk=>(jE hl h0 h1 ab).2)⟩
   have:=lS (n:=i) (f:=fun _=>0) (g:=shQ l n) (fun k hk=>(jE hl h0 h1 ab).1)
   rw [oP] at this
   omega
  have hb1:=fg hl i ab
  have hm2:(i:Int)*1099511627776≤4096*1099511627776:=Int.mul_le_mul_of_nonneg_right ab ac
  have hss:=cH i (shQ l n)
  obtain ⟨q1,q2⟩:=jE hl h0 h1 hlt
  have hr0:0≤shR l n i:=Int.emod_nonneg _ ab
  have hr1:shR l n i<lsum l:=Int.emod_lt_of_pos _ hs
  repeat first|refine aa ?_|intro _|refine cc ?_
  rw [hii,lx hlt]
  refine GO.ef (Ef.a6 (tu n l[i]!.2.2 (lsum l) h0 h2 ab ab hs ab (by have:=q2;unfold shQ at this;omega)) rfl) ac ?_
  rintro _ _ ⟨rfl,rfl⟩
  rw [show n*l[i]!.2.2 / lsum l=shQ l n i from rfl,show n*l[i]!.2.2 % lsum l=shR l n i from rfl]
  repeat first|refine aa ?_|intro _|refine cc ?_
  have h3:(dO l.length i (fun k:Nat=>(k:Int))).set i (i:Int)=dO l.length (i+1) (fun k:Nat=>(k:Int)):=iH _ hlt
  rw [hii,iH (shQ l n) hlt,iH (shR l n) hlt,h3]
  refine ⟨i+1,ab,ab,?_,by exact ae⟩
  rw [hss,show n - (bQ i (shQ l n)+shQ l n i)=n - bQ i (shQ l n) - shQ l n i by omega,show ((i+1:Nat):Int)=(i:Int)+1 by omega]
  exact aj
 rintro _ _
 obtain ⟨hl1,hl2⟩:=kL (n:=n) hl hne
 haveI:Inhabited (Fin l.length):=⟨⟨0,hlen⟩⟩
 have hrl:((List.range l.length).map (shR l n)).length=l.length:=by simp
 have hol:(List.range l.length).map (fun k:Nat=>(k:Int))=(List.finRange l.length).map (fun i:Fin l.length=>(i.val:Int)):=by
  rw [← nP,List.map_map]
  rfl
 have hfl:(List.finRange l.length).length=l.length:=by simp
 rw [hol]
 refine G.ent (L':=osl (fun x:Fin l.length=>[Value.int .i64 (x.val:Int)]) 1 tInt (some ⟨bo,0,none⟩) l.length (List.finRange l.length)::isl oz 1 (some ⟨bv,0,none⟩) [⟨some ⟨br,0,none⟩,((List.range l.length).map (shR l n)).length,l.length⟩]::isl (encZ .u64) 1 (some ⟨br,0,none⟩) ((List.range l.length).map (shR l n))::osl (encZ .i64) 1 tInt (some ⟨bp,0,none⟩) l.length ((List.range l.length).map (shQ l n))::L) ?_ ?_
 ·refine (Ent.frz (some ⟨br,0,none⟩)).trans ?_
  refine (Ent.at (A:=obj bv zh [.slice (some ⟨br,0,none⟩) l.length l.length]) (Ent.c6 (enc:=oz) (sz:=1) (xs:=[⟨some ⟨br,0,none⟩,((List.range l.length).map (shR l n)).length,l.length⟩]) (by rw [hrl];rfl) rfl (fun _ _=>rfl) (by simp))).trans ?_
  refine (Ent.frz (some ⟨bv,0,none⟩)).trans ?_
  refine (Ent.at (A:=osl (encZ .i64) 1 tInt (some ⟨bo,0,none⟩) l.length ((List.finRange l.length).map (fun i:Fin l.length=>(i.val:Int)))) (Ent.g9 (f:=fun i:Fin l.length=>(i.val:Int)) (enc:=encZ .i64))).trans ?_
  show Ent (osl (fun x:Fin l.length=>[Value.int .i64 (x.val:Int)]) 1 tInt (some ⟨bo,0,none⟩) l.length (List.finRange l.length)::_) _
  exact ae
 repeat first|refine aa ?_|intro _|refine cc ?_
 have hsort:=ug (E:=tInt) (cap:=(List.finRange l.length).length) (ad:=some ⟨bo,0,none⟩) (enc:=fun i:Fin l.length=>Value.int .i64 (i.val:Int)) (by intro x;rfl) (xs:=List.finRange l.length) (Lc:=[isl oz 1 (some ⟨bv,0,none⟩) [⟨some ⟨br,0,none⟩,((List.range l.length).map (shR l n)).length,l.length⟩],isl (encZ .u64) 1 (some ⟨br,0,none⟩) ((List.range l.length).map (shR l n))]) (g:=352) (cb:=#[.pointer (some ⟨bv,0,none⟩)]) (tN (shR l n) l.length) (BM _ _) Ew rO (fun x y=>wg bv (some ⟨br,0,none⟩) l.length ((List.range l.length).map (shR l n)) x.val y.val (by rw [hrl];exact x.isLt) (by rw [hrl];exact y.isLt) (by rw [hrl];omega)) (by rw [hfl];omega)
 rw [hfl] at hsort
 (first|refine GO.ef (Ef.call (hsort) rfl (by repeat (first|exact Ent.refl _|apply Ent.take))) ac ?_)
 rintro _ _ ⟨_,⟨rfl,ys,⟨hyp,hys⟩,rfl⟩,hL⟩
 simp only [List.cons_append,List.nil_append] at hL;subst hL
 have hyo:(ys.map (fun i=>i.val)).Perm (List.range l.length):=by
  rw [← nP]
  exact hyp.map _
 have hyr:(ys.map (fun i=>i.val)).Pairwise (rkLt (shR l n)):=by
  refine ut hyo ?_
  rw [List.pairwise_map]
  refine hys.imp ?_
  intro a b hab
  rw [lW] at hab
  omega
 obtain ⟨o,ho⟩:∃ o,o=ys.map (fun i=>i.val):=⟨_,rfl⟩
 rw [← ho] at hyo hyr
 have hoL:o.length=l.length:=by have:=hyo.length_eq;simpa using this
 have hom:(o.map (fun k:Nat=>(k:Int))).length=l.length:=by simpa using hoL
 have hog:∀ i,i<o.length→(o.map (fun k:Nat=>(k:Int)))[i]! = (o[i]! : Int):=fun i hi=>ek _ hi
 have hob:∀ i,i<o.length→o[i]! < l.length:=fun i hi=>List.mem_range.1 (hyo.mem_iff.1 (ap hi))
 refine GO.ent (L':=osl (encZ .i64) 1 tInt (some ⟨bo,0,none⟩) l.length (o.map (fun k:Nat=>(k:Int)))::osl (encZ .i64) 1 tInt (some ⟨bp,0,none⟩) l.length ((List.range l.length).map (shQ l n))::L) ?_ ?_
 ·have e:ys.map (fun i:Fin l.length=>(i.val:Int))=o.map (fun k:Nat=>(k:Int)):=by rw [ho,List.map_map];rfl
  rw [← e]
  refine (show Ent _ (osl (encZ .i64) 1 tInt (some ⟨bo,0,none⟩) l.length (ys.map (fun i:Fin l.length=>(i.val:Int)))::_) from Ent.g8 (f:=fun i:Fin l.length=>(i.val:Int)) (enc:=encZ .i64)).trans ?_
  exact ae
 clear hys hyp ho ys
 repeat first|refine aa ?_|intro _|refine cc ?_
 refine G.loop (α:=Nat) (fun i=>(i:Int)≤dD l n) (fun i=>[(9,.slice (some ⟨bp,0,none⟩) l.length l.length),(11,.slice (some ⟨bo,0,none⟩) l.length l.length),(85,.int .i64 (dD l n)),(86,.int .i64 (i:Int))])
  (fun i=>osl (encZ .i64) 1 tInt (some ⟨bo,0,none⟩) l.length (o.map (fun k:Nat=>(k:Int)))::osl (encZ .i64) 1 tInt (some ⟨bp,0,none⟩) l.length ((List.range l.length).map (fun k=>shQ l n k+if k∈o.take i then 1 else 0))::L) (fun i=>(dD l n).toNat - i) 0 hl1 aj ?_ ?_
 ·have e:(List.range l.length).map (fun k=>shQ l n k+if k∈o.take 0 then 1 else 0)=(List.range l.length).map (shQ l n):=List.map_congr_left (fun k _=>by simp)
  rw [e]
  exact ae
 intro i hi
 by_cases hlt:(i:Int)<dD l n
 case neg =>
  have e:(List.range l.length).map (fun k=>shQ l n k+if k∈o.take i then 1 else 0)=(List.range l.length).map (shC l n):=by
   apply List.map_congr_left
   intro k hk
   have hk2:=List.mem_range.1 hk
   unfold shC
   rw [po]
   congr 1
   have h3:=jv hyo hyr (m:=i) hk2
   by_cases h4:db (shR l n) l.length k<i
   ·rw [if_pos (h3.2 h4),if_pos ab]
   ·rw [if_neg (fun h=>h4 (h3.1 h)),if_neg ab]
  rw [e]
  repeat first|refine aa ?_|intro _|refine cc ?_
  exact KX.a6 ai ae ⟨some ⟨bp,0,none⟩,l.length,rfl,rfl⟩
 have hii:(i:Int).toNat=i:=ab
 have hio:i<o.length:=ab
 have hob1:=hob i hio
 have hpl:((List.range l.length).map (fun k=>shQ l n k+if k∈o.take i then 1 else 0)).length=l.length:=by simp
 have hpg:((List.range l.length).map (fun k=>shQ l n k+if k∈o.take i then 1 else 0))[o[i]!]! = shQ l n o[i]!:=by
  rw [dZ hob1,if_neg,Int.add_zero]
  intro hmem
  have h3:=(jv hyo hyr hob1).1 hmem
  rw [getElem!_of hio,iR hyo hyr hio] at h3
  omega
 obtain ⟨q1,q2⟩:=jE hl h0 h1 hob1
 have hok:=hl _ (ap hob1)
 unfold LotOk at hok
 repeat first|refine aa ?_|intro _|refine cc ?_
 rw [hii,hog i hio]
 have hoi:((o[i]! : Nat):Int).toNat=o[i]!:=ab
 repeat first|refine aa ?_|intro _|refine cc ?_
 rw [hoi,hpg]
 repeat first|refine aa ?_|intro _|refine cc ?_
 have e:((List.range l.length).map (fun k=>shQ l n k+if k∈o.take i then 1 else 0)).set o[i]! (shQ l n o[i]! + 1)=(List.range l.length).map (fun k=>shQ l n k+if k∈o.take (i+1) then 1 else 0):=by
  apply List.ext_getElem
  ·simp
  ·intro k h3 h4
   have hk:k<l.length:=by simpa using h4
   rw [List.getElem_set]
   simp only [List.getElem_map,List.getElem_range]
   have m1:=jv hyo hyr (m:=i) hk
   have m2:=jv hyo hyr (m:=i+1) hk
   by_cases h5:o[i]! = k
   ·subst h5
    have h6:db (shR l n) l.length o[i]! = i:=by rw [getElem!_of hio];exact iR hyo hyr hio
    rw [if_pos rfl,if_pos (m2.2 ab)]
   ·rw [if_neg h5]
    congr 1
    have h6:db (shR l n) l.length k≠i:=by
     intro h7
     refine h5 (uu (R:=shR l n) hob1 hk ?_)
     rw [h7,getElem!_of hio]
     exact iR hyo hyr hio
    by_cases h7:db (shR l n) l.length k<i
    ·rw [if_pos (m1.2 h7),if_pos (m2.2 ab)]
    ·rw [if_neg (fun h=>h7 (m1.1 h)),if_neg (fun h=>absurd (m2.1 h) ab)]
 rw [hoi,e]
 refine ⟨i+1,ab,ab,?_,by exact ae⟩
 rw [show ((i+1:Nat):Int)=(i:Int)+1 by omega]
 exact aj
end
section
theorem uc (bv:Nat) (ad:Option Addr) (c:Nat) (l:List Lot) (cs:Nat→Int) (hm:l.length≤1000000) :
  rx 332 [.pointer (some ⟨bv,0,none⟩)] l.length cs (fun _=>aX [obj bv 34 [.slice ad l.length c],isl (encZ .i64) 1 ad ((List.range l.length).map cs)]):=by
 intro k hk L
 have hii:(k:Int).toNat=k:=ab
 have hl:((List.range l.length).map cs).length=l.length:=by simp
 refine Tri.body (args:=[.int .i64 (k:Int),.pointer (some ⟨bv,0,none⟩)]) 8 Gt Tryz.func332 rfl rfl rfl (by simp) ?_
 refine G.ent Ent.openS ?_
 simp only [List.cons_append,List.nil_append]
 repeat first|refine aa ?_|intro _
 rw [hii,dZ hk]
 exact KX.a6 ai (Ent.e7 (A:=[_,_]) (L:=L)) ⟨rfl,rfl⟩
theorem cX {φ ψ:Prop} (k:ψ) (h:Hid ψ→φ:=by intro k;first|((with_reducible apply GO.a6);refine GO.c6 il Tryz.func330 rfl rfl rfl rfl (by simp) ac (Hid.out k))|((with_reducible apply GPW.a6);refine GPW.c6 il Tryz.func330 rfl rfl rfl rfl (by simp) ac (Hid.out k))|((with_reducible apply GO.a6);refine GO.a7 rfl il Tryz.func330 rfl rfl rfl rfl (by simp) ac (Hid.out k))|((with_reducible apply GPW.a6);refine GPW.a8 rfl il Tryz.func330 rfl rfl rfl rfl (by simp) ac (Hid.out k))|((with_reducible apply KX.c7);first|refine KX.in0 (.inl rfl) (Hid.out k)|refine KX.in0 (.inr rfl) (Hid.out k)|refine KX.in1 (.inl rfl) rfl (Hid.out k)|refine KX.in2 (.inl rfl) rfl rfl (Hid.out k)|refine KX.in3 (.inl rfl) rfl rfl rfl (Hid.out k)|refine KX.inC (.inl rfl) rfl (by rfl) (Hid.out k)|refine KX.c6 (.inl rfl) rfl (by rfl) rfl (Hid.out k))):φ:=h ⟨k⟩
theorem ze {L:List HP} (ad:Option Addr) (c:Nat) (xs:List Lot) (hb:xs.length≤4096) (hx:∀ l∈xs,LotOk l) :
  Tri Tryz.prog 316 #[.slice ad xs.length c,.int .i64 0,.bool true] (isl av 3 ad xs::L) (fun v L' =>
   (lsum xs<0∧v=.tuple #[.slice none 0 0,.slice none 0 0,.int .i64 10]∧L' = isl av 3 ad xs::L) ∨
   (0≤lsum xs∧∃ ad1 c1 ad2 c2,v=.tuple #[.slice ad1 (divF xs (fuC xs 0) xs.length).length c1,.slice ad2 (divR xs (fuC xs 0) xs.length).length c2,.int .i64 0]∧L' = osl av 3 tLot ad1 c1 (divF xs (fuC xs 0) xs.length)::osl av 3 tLot ad2 c2 (divR xs (fuC xs 0) xs.length)::isl av 3 ad xs::L)):=by
 have hw:∀ x∈xs,LotW x:=fun x h=>(hx x h).w
 have hs0:=fg hx xs.length (Nat.le_refl _)
 rw [fk] at hs0
 refine Tri.body (args:=[.slice ad xs.length c,.int .i64 0,.bool true]) 74 Bf Tryz.func316 rfl rfl rfl (by simp) ?_
 repeat first|refine aa ?_|intro _|refine cX ?_
 refine GO.ef (Ef.a6 (ie ad xs.length c xs rfl hb hx) rfl) ac ?_
 rintro _ _ ⟨rfl,rfl⟩
 repeat first|refine aa ?_|intro _|refine cX ?_
 refine GO.ef (Ef.a6 (ll ad xs.length c xs rfl hb hx) rfl) ac ?_
 rintro _ _ ⟨rfl,rfl⟩
 repeat first|refine aa ?_|intro _|refine cX ?_
 rename_i bl bn
 refine GO.ent (L':=aX (fuA bn bl ad c xs 0 0)::isl av 3 ad xs::isl av 3 ad xs::L) ?_ ?_
 ·refine Ent.trans ?_ Ent.e7
  simp only [fuA,fuR,List.cons_append,List.nil_append]
  refine (Ent.at (A:=isl av 3 ad xs) (Ent.dup (ix _ _ _ _))).trans ?_
  refine (Ent.dup (ix _ _ _ _)).trans ?_
  exact ae
 (first|refine GO.ef (Ef.call (lw _ _ ad c xs (fuC xs 0) (fun k=>aX (fuA bn bl ad c xs 0 k)) ab hw (lI (Int.le_refl _) hw) (sV bn bl ad c xs 0 ab (Int.le_refl _) ac hw)) rfl (by repeat (first|exact Ent.refl _|apply Ent.take))) ac ?_)
 rintro _ _ ⟨_,⟨ad1,c1,ad2,c2,rfl,rfl⟩,hL⟩
 simp only [List.cons_append,List.nil_append] at hL;subst hL
 repeat first|refine aa ?_|intro _|refine cX ?_
 exact KX.a6 ai (Ent.refl _) (.inr ⟨ab,ad1,c1,ad2,c2,rfl,rfl⟩)
theorem zf {L:List HP} (ad:Option Addr) (c:Nat) (xs:List Lot) (n:Int) (hb:xs.length≤4096) (hx:∀ l∈xs,LotOk l) (hn0:0<n) (hn1:n≤1099511627776) :
  Tri Tryz.prog 316 #[.slice ad xs.length c,.int .i64 n,.bool true] (isl av 3 ad xs::L) (fun v L' =>
   (lsum xs<n∧v=.tuple #[.slice none 0 0,.slice none 0 0,.int .i64 10]∧L' = isl av 3 ad xs::L) ∨
   (n≤lsum xs∧∃ ad1 c1 ad2 c2,v=.tuple #[.slice ad1 (divF xs (shC xs n) xs.length).length c1,.slice ad2 (divR xs (shC xs n) xs.length).length c2,.int .i64 0]∧L' = osl av 3 tLot ad1 c1 (divF xs (shC xs n) xs.length)::osl av 3 tLot ad2 c2 (divR xs (shC xs n) xs.length)::isl av 3 ad xs::L)):=by
 have hw:∀ x∈xs,LotW x:=fun x h=>(hx x h).w
 refine Tri.body (args:=[.slice ad xs.length c,.int .i64 n,.bool true]) 74 Bf Tryz.func316 rfl rfl rfl (by simp) ?_
 repeat first|refine aa ?_|intro _|refine cX ?_
 refine GO.ef (Ef.a6 (ie ad xs.length c xs rfl hb hx) rfl) ac ?_
 rintro _ _ ⟨rfl,rfl⟩
 repeat first|refine aa ?_|intro _|refine cX ?_
 refine GO.ef (Ef.a6 (ll ad xs.length c xs rfl hb hx) rfl) ac ?_
 rintro _ _ ⟨rfl,rfl⟩
 by_cases hs:lsum xs<n
 ·repeat first|refine aa ?_|intro _|refine cX ?_
  exact KX.a6 ai (Ent.refl _) (.inl ⟨hs,rfl,rfl⟩)
 have hne:xs≠[]:=by
  rintro rfl
  simp [lsum] at hs
  omega
 repeat first|refine aa ?_|intro _|refine cX ?_
 rename_i bl bn
 refine GO.ent Ent.drop (GO.ent Ent.drop ?_)
 refine GO.ef (Ef.makeSlice (encZ .i64) 0 rfl rfl rfl ab ab ab) ac ?_
 rintro _ _ ⟨bw,rfl,rfl⟩
 rw [Int.toNat_natCast,← hU xs.length (fun k=>xs[k]!.2.2)]
 repeat first|((fail_if_success (with_reducible refine G.c7 8 ?_));(with_reducible apply G.seq))|refine aL ?_|intro _|((with_reducible apply GO.a6);refine GO.c6 il Tryz.func330 rfl rfl rfl rfl (by simp) ac ?_)|((with_reducible apply GPW.a6);refine GPW.c6 il Tryz.func330 rfl rfl rfl rfl (by simp) ac ?_)|((with_reducible apply GO.a6);refine GO.a7 rfl il Tryz.func330 rfl rfl rfl rfl (by simp) ac ?_)|((with_reducible apply GPW.a6);refine GPW.a8 rfl il Tryz.func330 rfl rfl rfl rfl (by simp) ac ?_)|((with_reducible apply KX.c7);first|refine KX.in0 (.inl rfl) ?_|refine KX.in0 (.inr rfl) ?_|refine KX.in1 (.inl rfl) rfl ?_|refine KX.in2 (.inl rfl) rfl rfl ?_|refine KX.in3 (.inl rfl) rfl rfl rfl ?_|refine KX.inC (.inl rfl) rfl (by rfl) ?_|refine KX.c6 (.inl rfl) rfl (by rfl) rfl ?_)
 refine G.a8 (α:=Unit) (fun _=>True) (fun _=>[(0,.slice ad xs.length c),(1,.int .i64 n),(10,.slice (some ⟨bw,0,none⟩) xs.length xs.length)]) (fun _=>isl (encZ .i64) 1 (some ⟨bw,0,none⟩) (wts xs)::isl av 3 ad xs::L) ?_ ?_
 ·repeat first|refine aa ?_|intro _|refine cX ?_
  refine G.loop (α:=Nat) (fun i=>i≤xs.length) (fun i=>[(0,.slice ad xs.length c),(1,.int .i64 n),(10,.slice (some ⟨bw,0,none⟩) xs.length xs.length),(43,.slice ad xs.length c),(44,.int .i64 xs.length),(45,.int .i64 (i:Int))])
   (fun i=>osl (encZ .i64) 1 tInt (some ⟨bw,0,none⟩) xs.length (dO xs.length i (fun k=>xs[k]!.2.2))::isl av 3 ad xs::L) (fun i=>xs.length - i) 0 (Nat.zero_le _) aj ae ?_
  intro i hi
  have hf1:=iI xs.length i (fun k=>xs[k]!.2.2)
  by_cases hlt:i<xs.length
  case neg =>
   have hin:i=xs.length:=ab
   subst hin
   have e:dO xs.length xs.length (fun k=>xs[k]!.2.2)=wts xs:=by
    rw [iJ]
    apply List.ext_getElem
    ·simp [wts]
    ·intro k h1 h2
     have hk:k<xs.length:=by simpa using h1
     simp [wts,hk]
   rw [e]
   repeat first|refine aa ?_|intro _|refine cX ?_
   exact ⟨(),trivial,aj,(Ent.frz (some ⟨bw,0,none⟩))⟩
  have hii:(i:Int).toNat=i:=ab
  have h3:(dO xs.length i (fun k=>xs[k]!.2.2)).set i xs[i]!.2.2=dO xs.length (i+1) (fun k=>xs[k]!.2.2):=iH _ hlt
  repeat first|refine aa ?_|intro _|refine cX ?_
  rw [hii,h3]
  refine ⟨i+1,ab,ab,?_,by exact ae⟩
  rw [show ((i+1:Nat):Int)=(i:Int)+1 by omega]
  exact aj
 rintro _ _
 repeat first|refine aa ?_|intro _|refine cX ?_
 refine GO.ef (Ef.a6 (zj (some ⟨bw,0,none⟩) xs.length xs n hb hx hne ab ab hn1) rfl) ac ?_
 rintro _ _ ⟨ad3,c3,rfl,rfl⟩
 repeat first|refine aa ?_|intro _|refine cX ?_
 rename_i bv
 refine GO.ent (L':=aX [obj bv 34 [.slice ad3 xs.length c3],isl (encZ .i64) 1 ad3 ((List.range xs.length).map (shC xs n))]::isl av 3 ad xs::isl av 3 ad xs::L) ?_ ?_
 ·refine (Ent.frz ad3).trans ?_
  refine Ent.trans ?_ Ent.e7
  simp only [List.cons_append,List.nil_append]
  refine (Ent.at (A:=isl av 3 ad xs) (Ent.dup (ix _ _ _ _))).trans ?_
  exact ae
 (first|refine GO.ef (Ef.call (lw _ _ ad c xs (shC xs n) (fun _=>aX [obj bv 34 [.slice ad3 xs.length c3],isl (encZ .i64) 1 ad3 ((List.range xs.length).map (shC xs n))]) ab hw (BN hx ab ab) (uc bv ad3 c3 xs (shC xs n) ab)) rfl (by repeat (first|exact Ent.refl _|apply Ent.take))) ac ?_)
 rintro _ _ ⟨_,⟨ad1,c1,ad2,c2,rfl,rfl⟩,hL⟩
 simp only [List.cons_append,List.nil_append] at hL;subst hL
 repeat first|refine aa ?_|intro _|refine cX ?_
 exact KX.a6 ai (Ent.refl _) (.inr ⟨ab,ad1,c1,ad2,c2,rfl,rfl⟩)
theorem dF (mixed:Bool):TakeC mixed:=by
 cases mixed with
 | false=>exact wd
 | true =>
  refine ⟨fun l n hl h0 h1 k hk=>ua true l n hl h0 h1 k hk,?_⟩
  intro L ad c xs n h1 h2 h3 h4
  rcases Int.lt_or_eq_of_le h3 with h5|h5
  ·have e:tkC true xs n=shC xs n:=if_pos ⟨rfl,h5⟩
   unfold fC eX
   rw [e]
   exact zf ad c xs n h1 h2 h5 h4
  ·subst h5
   have e:tkC true xs 0=fuC xs 0:=if_neg (fun h=>absurd h.2 ab)
   unfold fC eX
   rw [e]
   exact ze ad c xs h1 h2
end
section
def decS (n:Nat):ByteArray:=if n<10 then ⟨#[(48+n).toUInt8]⟩ else ⟨#[(48+n / 10).toUInt8,(48+n % 10).toUInt8]⟩
abbrev digitsBA:ByteArray:={ data:=#[48,49,50,51,52,53,54,55,56,57,97,98,99,100,101,102,103,104,105,106,107,108,109,110,111,112,113,114,115,116,117,118,119,120,121,122] }
abbrev smallsBA:ByteArray:={ data:=(([48,48,48,49,48,50,48,51,48,52,48,53,48,54,48,55,48,56,48,57,49,48,49,49,49,50,49,51,49,52,49,53,49,54,49,55,49,56,49,57,50,48,50,49,50,50,50,51,50,52].append [50,53,50,54,50,55,50,56,50,57,51,48,51,49,51,50,51,51,51,52,51,53,51,54,51,55,51,56,51,57,52,48,52,49,52,50,52,51,52,52,52,53,52,54,52,55,52,56,52,57]).append ([53,48,53,49,53,50,53,51,53,52,53,53,53,54,53,55,53,56,53,57,54,48,54,49,54,50,54,51,54,52,54,53,54,54,54,55,54,56,54,57,55,48,55,49,55,50,55,51,55,52].append [55,53,55,54,55,55,55,56,55,57,56,48,56,49,56,50,56,51,56,52,56,53,56,54,56,55,56,56,56,57,57,48,57,49,57,50,57,51,57,52,57,53,57,54,57,55,57,56,57,57])).toArray }
theorem Bn:∀ n:Nat,n<10→digitsBA.extract n (n+1)=decS n:=by decide +kernel
theorem zl:∀ n:Nat,n<100→10≤n→smallsBA.extract (n*2) (n*2+2)=decS n:=by decide +kernel
theorem ym:digitsBA.size=36:=by decide +kernel
theorem wi:smallsBA.size=200:=by decide +kernel
theorem zm {L:List HP} (n:Nat) (h:n<100):Tri Tryz.prog 245 #[.int .i64 (n:Int)] L (fun v L'=>v=.string (decS n)∧L' = L):=by
 have h1:=ym
 have h2:=wi
 refine Tri.body (args:=[.int .i64 (n:Int)]) 15 Ho Tryz.func245 rfl rfl rfl (by simp) ?_
 by_cases h10:n<10
 ·repeat first|refine aa ?_|intro _
  refine GO.ev (Ev.g7 (s:=digitsBA) rfl rfl rfl ab ab ab) ac ?_
  rw [show (n:Int).toNat=n by omega,show ((n:Int)+1).toNat=n+1 by omega,Bn n h10]
  repeat first|refine aa ?_|intro _
  exact KX.a6 ai (Ent.refl _) ⟨rfl,rfl⟩
 ·repeat first|refine aa ?_|intro _
  refine GO.ev (Ev.g7 (s:=smallsBA) rfl rfl rfl ab ab ab) ac ?_
  rw [show ((n:Int)*2).toNat=n*2 by omega,show ((n:Int)*2+2).toNat=n*2+2 by omega,zl n h ab]
  repeat first|refine aa ?_|intro _
  exact KX.a6 ai (Ent.refl _) ⟨rfl,rfl⟩
theorem rS {L:List HP} (n:Nat) (h:n<100):Tri Tryz.prog 158 #[.int .i64 (n:Int),.int .i64 10] L (fun v L'=>v=.string (decS n)∧L' = L):=by
 refine Tri.body (args:=[.int .i64 (n:Int),.int .i64 10]) 54 IG Tryz.func158 rfl rfl rfl (by simp) ?_
 repeat first|refine aa ?_|intro _
 refine GO.ef (Ef.a6 (zm n h) rfl) ac ?_
 rintro _ L ⟨rfl,rfl⟩
 repeat first|refine aa ?_|intro _
 exact KX.a6 ai (Ent.refl _) ⟨rfl,rfl⟩
theorem AW {L:List HP} (n:Nat) (h:n<100):Tri Tryz.prog 106 #[.int .i64 (n:Int)] L (fun v L'=>v=.string (decS n)∧L' = L):=by
 refine Tri.body (args:=[.int .i64 (n:Int)]) 5 JA Tryz.func106 rfl rfl rfl (by simp) ?_
 repeat first|refine aa ?_|intro _
 refine GO.ef (Ef.a6 (rS n h) rfl) ac ?_
 rintro _ L ⟨rfl,rfl⟩
 repeat first|refine aa ?_|intro _
 exact KX.a6 ai (Ent.refl _) ⟨rfl,rfl⟩
theorem sK {L:List HP} (n:Nat) (h:n<100):Tri Tryz.prog 52 #[.int .i64 (n:Int)] L (fun v L'=>v=.string (decS n)∧L' = L):=by
 refine Tri.body (args:=[.int .i64 (n:Int)]) 5 en52 Tryz.func52 rfl rfl rfl (by simp) ?_
 repeat first|refine aa ?_|intro _
 refine GO.ef (Ef.a6 (AW n h) rfl) ac ?_
 rintro _ L ⟨rfl,rfl⟩
 repeat first|refine aa ?_|intro _
 exact KX.a6 ai (Ent.refl _) ⟨rfl,rfl⟩
def aR (n:Int):List Int:=[IntKind.u8.wrap n,IntKind.u8.wrap (n.tdiv 256),7]
theorem kb (n:Int):dy (aR n):=by
 intro x hx
 simp only [aR,List.mem_cons,List.not_mem_nil,or_false] at hx
 rcases hx with rfl|rfl|rfl
 ·rw [IntKind.wrap_u8'];omega
 ·rw [IntKind.wrap_u8'];omega
 ·decide
abbrev jZ:Nat:=5
theorem fb {L:List HP} (n:Int) (h:I64 n):Tri Tryz.prog 16 #[.int .i64 n] L (fun v L'=>∃ b,v=.slice (some ⟨b,0,none⟩) 3 3∧L' = osl (encZ .u8) 1 jZ (some ⟨b,0,none⟩) 3 (aR n)::L):=by
 unfold I64 at h
 refine Tri.body (args:=[.int .i64 n]) 9 en16 Tryz.func16 rfl rfl rfl (by simp) ?_
 repeat first|refine aa ?_|intro _
 exact KX.a6 ai (Ent.c6 (enc:=encZ .u8) (sz:=1) (xs:=aR n) rfl rfl (fun _ _=>rfl) (by simp [aR])) ⟨_,rfl,rfl⟩
theorem nU (n k:Int) (hk:0<k):(if n.tmod k<0 then n.tmod k+k else n.tmod k)=n % k:=by
 have h2:=Int.emod_nonneg n (show k≠0 by omega)
 have h3:=Int.emod_lt_of_pos n hk
 rw [Int.tmod_eq_emod]
 have h4:(k.natAbs:Int)=k:=ab
 by_cases h:0≤n∨k∣n
 ·rw [if_pos h,show n % k - ((0:Nat):Int)=n % k by omega,if_neg ab]
 ·rw [if_neg h,h4,if_pos ab]
  omega
theorem gX {L:List HP} (n k:Int) (h:I64 n) (hk:0<k) (hk2:k≤4611686018427387904):Tri Tryz.prog 12 #[.int .i64 n,.int .i64 k] L (fun v L'=>v=.int .i64 (n % k)∧L' = L):=by
 unfold I64 at h
 have hb1:=nU n k hk
 have hb2:=Int.emod_nonneg n (show k≠0 by omega)
 have hb3:=Int.emod_lt_of_pos n hk
 rw [← nU n k hk]
 refine Tri.body (args:=[.int .i64 n,.int .i64 k]) 15 en12 Tryz.func12 rfl rfl rfl (by simp) ?_
 by_cases h0:n.tmod k<0
 ·rw [if_pos h0] at hb1
  rw [if_pos h0]
  repeat first|refine aa ?_|intro _
  exact KX.a6 ai (Ent.refl _) ⟨rfl,rfl⟩
 ·rw [if_neg h0]
  repeat first|refine aa ?_|intro _
  exact KX.a6 ai (Ent.refl _) ⟨rfl,rfl⟩
abbrev Cp:List Stp:=[.ev 0,.ev 1,.ev 2,.ev 3,.ev 4,.ev 5,.ev 6,.ev 7,.ev 8]
theorem gP {φ ψ:Prop} (k:ψ) (h:Hid ψ→φ:=by intro k;(with_reducible apply G.a7);first|refine G.a6 (N:=26) (id:=6) Cp mixed ah (Hid.out k)):φ:=h ⟨k⟩
theorem ql {L:List HP} (ad1 ad2:Option Addr) (n1 n2 c1 c2:Nat) (xs ys:List Int) [Rds L ad1 Int (encZ .i64) 1 xs] [Rds L ad2 Int (encZ .i64) 1 ys] (h1:n1=xs.length) (h2:n2=ys.length) (hl:xs.length≤1000000000) :
  Tri Tryz.prog 21 #[.slice ad1 n1 c1,.slice ad2 n2 c2] L (fun v L'=>v=.bool (dB (xs=ys))∧L' = L):=by
 subst h1 h2
 refine Tri.body (args:=[.slice ad1 xs.length c1,.slice ad2 ys.length c2]) 26 en21 Tryz.func21 rfl rfl rfl (by simp) ?_
 by_cases he:xs.length=ys.length
 case neg =>
  rw [an (fun h:xs=ys=>he (by rw [h]))]
  repeat first|refine aa ?_|intro _|refine gP ?_
  exact KX.a6 ai (Ent.refl _) ⟨rfl,rfl⟩
 repeat first|refine aa ?_|intro _|refine gP ?_
 refine G.loop (α:=Nat) (fun i=>i≤xs.length∧xs.take i=ys.take i) (fun i=>[(0,.slice ad1 xs.length c1),(1,.slice ad2 ys.length c2),(5,.int .i64 (i:Int))]) (fun _=>L) (fun i=>xs.length - i) 0 ⟨Nat.zero_le _,by simp⟩ aj (Ent.refl _) ?_
 rintro i ⟨hi,ht⟩
 by_cases hlt:i<xs.length
 case neg =>
  have e:xs=ys:=by
   rw [List.take_of_length_le ab,List.take_of_length_le ab] at ht
   exact ht
  rw [aw e]
  repeat first|refine aa ?_|intro _|refine gP ?_
  exact KX.a6 ai (Ent.refl _) ⟨rfl,rfl⟩
 have hii:(i:Int).toNat=i:=ab
 by_cases hx:xs[i]! = ys[i]!
 ·have hx2:xs[(i:Int).toNat]! = ys[(i:Int).toNat]!:=by rw [hii];exact hx
  repeat first|refine aa ?_|intro _|refine gP ?_
  refine ⟨i+1,⟨ab,?_⟩,ab,?_,Ent.refl _⟩
  ·rw [List.take_succ_eq_append_getElem hlt,List.take_succ_eq_append_getElem ab,ht]
   rw [getElem!_of hlt,getElem!_of ab] at hx
   rw [hx]
  ·rw [show ((i+1:Nat):Int)=(i:Int)+1 by omega]
   exact aj
 ·have hx2:¬xs[(i:Int).toNat]! = ys[(i:Int).toNat]!:=by rw [hii];exact hx
  rw [an (fun h:xs=ys=>hx (by rw [h]))]
  repeat first|refine aa ?_|intro _|refine gP ?_
  exact KX.a6 ai (Ent.refl _) ⟨rfl,rfl⟩
def BagB (l:List Int):Prop:=∀ x∈l,0≤x∧x≤1099511627776
theorem AX {L:List HP} (ad:Option Addr) (n c:Nat) (xs:List Int) [Rds L ad Int (encZ .i64) 1 xs] (hn:n=xs.length) (hl:xs.length≤64) (hx:BagB xs):Tri Tryz.prog 103 #[.slice ad n c] L (fun v L'=>v=.bool true∧L' = L):=by
 subst hn
 refine Tri.body (args:=[.slice ad xs.length c]) 21 JD Tryz.func103 rfl rfl rfl (by simp) ?_
 repeat first|refine aa ?_|intro _
 refine G.loop (α:=Nat) (fun i=>i≤xs.length) (fun i=>[(8,.slice ad xs.length c),(9,.int .i64 xs.length),(10,.int .i64 (i:Int))]) (fun _=>L) (fun i=>xs.length - i) 0 (Nat.zero_le _) aj (Ent.refl _) ?_
 intro i hi
 by_cases hlt:i<xs.length
 case neg =>
  repeat first|refine aa ?_|intro _
  exact KX.a6 ai (Ent.refl _) ⟨rfl,rfl⟩
 have hii:(i:Int).toNat=i:=ab
 have hb:=hx _ (ap hlt)
 repeat first|refine aa ?_|intro _
 rw [hii]
 repeat first|refine aa ?_|intro _
 refine ⟨i+1,ab,ab,?_,Ent.refl _⟩
 rw [show ((i+1:Nat):Int)=(i:Int)+1 by omega]
 exact aj
theorem vi {L:List HP} (n:Int) (h:n≤1099511627776):Tri Tryz.prog 62 #[.int .i64 n] L (fun v L'=>v=.tuple #[.int .i64 n,.int .i64 0]∧L' = L):=by
 refine Tri.body (args:=[.int .i64 n]) 7 en62 Tryz.func62 rfl rfl rfl (by simp) ?_
 repeat first|refine aa ?_|intro _
 exact KX.a6 ai (Ent.refl _) ⟨rfl,rfl⟩
def bagL (n:Nat) (l:List (Int×Int)):List Int:=l.foldl (fun b a=>b.set a.1.toNat (b[a.1.toNat]! + a.2)) (List.replicate n 0)
theorem pN (n:Nat) (l:List (Int×Int)):(bagL n l).length=n:=by
 have h:∀ (l:List (Int×Int)) (b:List Int),(l.foldl (fun b a=>b.set a.1.toNat (b[a.1.toNat]! + a.2)) b).length=b.length:=by
  intro l
  induction l with
  | nil=>intro b;rfl
  | cons a l ih=>intro b;rw [List.foldl_cons,ih];simp
 unfold bagL
 rw [h]
 simp
theorem Da (n:Nat) (l:List (Int×Int)) {i:Nat} (h:i<l.length):bagL n (l.take (i+1))=(bagL n (l.take i)).set l[i]!.1.toNat ((bagL n (l.take i))[l[i]!.1.toNat]! + l[i]!.2):=by
 unfold bagL
 rw [List.take_succ_eq_append_getElem h,List.foldl_append,getElem!_of h]
 rfl
def AmOk (n:Nat) (l:List (Int×Int)):Prop:=∀ a∈l,0≤a.1∧a.1<n∧1≤a.2∧a.2≤1099511627776
theorem wy {L:List HP} (n:Nat) (a:Int×Int) (h:0≤a.1∧a.1<n∧1≤a.2∧a.2≤1099511627776):Tri Tryz.prog 58 #[.int .i64 (n:Int),.agg (aB a).toArray] L (fun v L'=>v=.bool true∧L' = L):=by
 obtain ⟨h1,h2,h3,h4⟩:=h
 refine Tri.body (args:=[.int .i64 (n:Int),.agg (aB a).toArray]) 24 en58 Tryz.func58 rfl rfl rfl (by simp) ?_
 repeat first|refine aa ?_|intro _
 exact KX.a6 ai (Ent.drop) ⟨by rw [aw h4];rfl,rfl⟩
abbrev AI:List Stp:=[.ev 0,.ev 1,.ev 2,.ev 3,.ev 4,.ev 5,.ev 6,.ev 7,.ev 8,.ef 9]
theorem dW {φ ψ:Prop} (k:ψ) (h:Hid ψ→φ:=by intro k;(with_reducible apply G.a7);first|refine G.a6 (N:=53) (id:=13) AI mixed ah (Hid.out k)):φ:=h ⟨k⟩
theorem Bx {L:List HP} (n:Nat) (ad:Option Addr) (m c:Nat) (l:List (Int×Int)) [hr:Rds L ad (Int×Int) aB 2 l] (hm:m=l.length) (hn:n≤64) (hl:l.length≤64) (ha:AmOk n l) (hb:∀ i,i≤l.length→BagB (bagL n (l.take i))) :
  Tri Tryz.prog 19 #[.int .i64 (n:Int),.slice ad m c] L (fun v L'=>∃ ad cap,v=.tuple #[.slice ad n cap,.int .i64 0]∧L' = osl (encZ .i64) 1 tInt ad cap (bagL n l)::L):=by
 subst hm
 refine Tri.body (args:=[.int .i64 (n:Int),.slice ad l.length c]) 53 en19 Tryz.func19 rfl rfl rfl (by simp) ?_
 repeat first|((fail_if_success (with_reducible refine G.c7 3 ?_));(with_reducible apply G.seq))|refine aL ?_|intro _|refine dW ?_
 refine G.a8 (α:=Unit) (fun _=>True) (fun _=>[(0,.int .i64 (n:Int)),(1,.slice ad l.length c)]) (fun _=>L) ?_ ?_
 ·repeat first|refine aa ?_|intro _|refine dW ?_
  refine G.loop (α:=Nat) (fun i=>i≤l.length) (fun i=>[(0,.int .i64 (n:Int)),(1,.slice ad l.length c),(17,.slice ad l.length c),(18,.int .i64 l.length),(19,.int .i64 (i:Int))]) (fun _=>L) (fun i=>l.length - i) 0 (Nat.zero_le _) aj (Ent.refl _) ?_
  intro i hi
  by_cases hlt:i<l.length
  case neg =>
   repeat first|refine aa ?_|intro _|refine dW ?_
   exact ⟨(),trivial,aj,Ent.refl _⟩
  have hii:(i:Int).toNat=i:=ab
  repeat first|refine aa ?_|intro _|refine dW ?_
  rw [hii]
  refine GO.ef (Ef.a6 (wy n l[i]! (ha _ (ap hlt))) rfl) ac ?_
  rintro _ _ ⟨rfl,rfl⟩
  repeat first|refine aa ?_|intro _|refine dW ?_
  refine ⟨i+1,ab,ab,?_,Ent.drop⟩
  rw [show ((i+1:Nat):Int)=(i:Int)+1 by omega]
  exact aj
 rintro _ _
 repeat first|refine aa ?_|intro _|refine dW ?_
 refine GO.ef (Ef.makeSlice (encZ .i64) 0 rfl rfl rfl ab ab ab) ac ?_
 rintro _ _ ⟨b,rfl,rfl⟩
 rw [Int.toNat_natCast]
 repeat first|refine aa ?_|intro _|refine dW ?_
 refine G.loop (α:=Nat) (fun i=>i≤l.length) (fun i=>[(8,.slice (some ⟨b,0,none⟩) n n),(30,.slice ad l.length c),(31,.int .i64 l.length),(32,.int .i64 (i:Int))]) (fun i=>osl (encZ .i64) 1 tInt (some ⟨b,0,none⟩) n (bagL n (l.take i))::L) (fun i=>l.length - i) 0 (Nat.zero_le _) aj (by exact Ent.refl _) ?_
 intro i hi
 have hbl:=pN n (l.take i)
 by_cases hlt:i<l.length
 case neg =>
  rw [List.take_of_length_le ab] at hbl ⊢
  repeat first|refine aa ?_|intro _|refine dW ?_
  exact KX.a6 ai (Ent.refl _) ⟨_,_,rfl,rfl⟩
 have hii:(i:Int).toNat=i:=ab
 obtain ⟨a1,a2,a3,a4⟩:=ha _ (ap hlt)
 have hit:l[i]!.1.toNat<n:=ab
 have hb1:=hb i hi _ (ap (show l[i]!.1.toNat<(bagL n (l.take i)).length by omega))
 have hbs:=Da n l hlt
 have hbl2:=pN n (l.take (i+1))
 have hb2:=hb (i+1) ab _ (ap (show l[i]!.1.toNat<(bagL n (l.take (i+1))).length by omega))
 have hsl:((bagL n (l.take i)).set l[i]!.1.toNat ((bagL n (l.take i))[l[i]!.1.toNat]! + l[i]!.2)).length=n:=by rw [List.length_set];exact hbl
 rw [hbs] at hb2
 repeat first|refine aa ?_|intro _|refine dW ?_
 rw [hii]
 repeat first|refine aa ?_|intro _|refine dW ?_
 rw [← hbs]
 refine ⟨i+1,ab,ab,?_,by exact ae⟩
 rw [show ((i+1:Nat):Int)=(i:Int)+1 by omega]
 exact aj
end
section
theorem ld (a b:List Int):bS a b<18446744073709551616:=ji _ _
theorem kD {L:List HP} (label:ByteArray) (ad:Option Addr) (n c:Nat) (b:List Int) [hrd:Rds L ad Int (encZ .u8) 1 b] (hb:dy b) (hn:n=b.length) (hc:n≤c) (hls:label.size≤1000000) (hm:n≤100000000) :
  Tri Tryz.prog 15 #[.slice ad n c,.string label] L (fun v L'=>∃ d,v=.pointer (some ⟨d,0,none⟩)∧L' = gg d (bS (aD label) b) 0::L):=by
 refine Tri.body (args:=[.slice ad n c,.string label]) 10 en15 Tryz.func15 rfl rfl rfl (by simp) ?_
 repeat first|refine aa ?_|intro _
 refine GO.ef (Ef.a6 (Bv label ad n c b hb hn hc hls hm) rfl) ac ?_
 rintro _ _ ⟨rfl,rfl⟩
 repeat first|refine aa ?_|intro _
 exact KX.a6 ai (Ent.refl _) ⟨_,rfl,rfl⟩
def hitD (key:Nat) (num den:Int) (at_:Nat):Bool×Int×Nat:=if 0≤num∧1≤den∧num≤den then (decide ((bU key den.toNat at_).2.1=0∧(bU key den.toNat at_).1<num),(bU key den.toNat at_).2.1,(bU key den.toNat at_).2.2) else (false,1,at_)
theorem vp {L:List HP} (d key at_:Nat) (num den:Int) (hk:key<18446744073709551616) (ha:at_≤1000000000000) (h2:den≤4611686018427387904) :
  Tri Tryz.prog 31 #[.pointer (some ⟨d,0,none⟩),.int .i64 num,.int .i64 den] (gg d key at_::L) (fun v L'=>v=.tuple #[.bool (hitD key num den at_).1,.int .i64 (hitD key num den at_).2.1]∧L' = gg d key (hitD key num den at_).2.2::L):=by
 refine Tri.body (args:=[.pointer (some ⟨d,0,none⟩),.int .i64 num,.int .i64 den]) 35 en31 Tryz.func31 rfl rfl rfl (by simp) ?_
 by_cases h:0≤num∧1≤den∧num≤den
 case neg =>
  have e:hitD key num den at_=(false,1,at_):=if_neg h
  rw [e]
  by_cases a1:0≤num
  ·by_cases a2:1≤den
   ·have a3:den<num:=ab
    repeat first|refine aa ?_|intro _
    exact KX.a6 ai (Ent.refl _) ⟨rfl,rfl⟩
   ·repeat first|refine aa ?_|intro _
    exact KX.a6 ai (Ent.refl _) ⟨rfl,rfl⟩
  ·repeat first|refine aa ?_|intro _
   exact KX.a6 ai (Ent.refl _) ⟨rfl,rfl⟩
 have e:hitD key num den at_=(decide ((bU key den.toNat at_).2.1=0∧(bU key den.toNat at_).1<num),(bU key den.toNat at_).2.1,(bU key den.toNat at_).2.2):=if_pos h
 rw [e]
 obtain ⟨a1,a2,a3⟩:=h
 obtain ⟨dN,rfl⟩:∃ dN:Nat,den=(dN:Int):=⟨den.toNat,ab⟩
 rw [Int.toNat_natCast]
 repeat first|refine aa ?_|intro _
 (first|refine GO.ef (Ef.call (sr d key at_ dN hk ha ab ab) rfl (by repeat (first|exact Ent.refl _|apply Ent.take))) ac ?_)
 rintro _ _ ⟨_,⟨rfl,rfl⟩,hL⟩
 simp only [List.cons_append,List.nil_append] at hL;subst hL
 generalize bU key dN at_=r
 obtain ⟨r1,r2,r3⟩:=r
 dsimp only
 by_cases h5:r2=0
 ·by_cases h6:r1<num
  ·repeat first|refine aa ?_|intro _
   exact KX.a6 ai (Ent.refl _) ⟨by rw [aw h6,decide_eq_true ⟨h5,h6⟩];rfl,rfl⟩
  ·repeat first|refine aa ?_|intro _
   exact KX.a6 ai (Ent.refl _) ⟨by rw [an h6,decide_eq_false (fun h=>h6 h.2)];rfl,rfl⟩
 ·repeat first|refine aa ?_|intro _
  exact KX.a6 ai (Ent.refl _) ⟨by rw [decide_eq_false (fun h=>h5 h.1)];rfl,rfl⟩
def EC (g:FuncId) (cap:List Value) (n:Nat) (p:Nat→Prop) [DecidablePred p] (C:HP):Prop:=∀ k,k<n→∀ L:List HP,Tri Tryz.prog g (([]++[Value.int .i64 (k:Int)]++cap:List Value)).toArray (C::L) (fun v L'=>v=.bool (dB (p k))∧L' = C::L)
theorem wj {L:List HP} (g:FuncId) (cap:List Value) (n:Nat) (p:Nat→Prop) [DecidablePred p] (C:HP) (hn:n≤1000000000) (hg:EC g cap n p C) (hmono:∀ i j,i≤j→j<n→p i→p j) :
  Tri Tryz.prog 56 #[.int .i64 (n:Int),.func (.func g) #[] cap.toArray] (C::L) (fun v L'=>∃ i:Nat,v=.int .i64 (i:Int)∧(i≤n∧(∀ k,k<i→¬p k)∧(i<n→p i))∧L' = C::L):=by
 refine Tri.body (args:=[.int .i64 (n:Int),.func (.func g) #[] cap.toArray]) 26 en56 Tryz.func56 rfl rfl rfl (by simp) ?_
 repeat first|refine aa ?_|intro _
 refine G.loop (α:=Nat×Nat) (fun x=>x.1≤x.2∧x.2≤n∧(∀ k,k<x.1→¬p k)∧(x.2<n→p x.2)) (fun x=>[(1,.func (.func g) #[] cap.toArray),(5,.int .i64 (x.1:Int)),(6,.int .i64 (x.2:Int))]) (fun _=>C::L) (fun x=>x.2 - x.1) (0,n) ⟨Nat.zero_le _,Nat.le_refl _,fun k hk=>by omega,fun h=>by omega⟩ aj (Ent.refl _) ?_
 rintro ⟨i,j⟩ ⟨h1,h2,h3,h4⟩
 dsimp only at h1 h2 h3 h4 ⊢
 by_cases hij:i<j
 case neg =>
  obtain rfl:i=j:=ab
  repeat first|refine aa ?_|intro _
  exact KX.a6 ai (Ent.refl _) ⟨i,rfl,⟨h2,h3,h4⟩,rfl⟩
 repeat first|refine aa ?_|intro _
 rw [show (i:Int)+(j:Int)=((i+j:Nat):Int) by omega]
 refine GO.ev (Ev.j9 1 rfl ac rfl rfl) ac ?_
 repeat first|refine aa ?_|intro _
 have hm:(i+j) / 2 ^ 1=(i+j) / 2:=rfl
 rw [hm]
 refine GO.ef (Ef.a8 rfl rfl (hg ((i+j) / 2) ab _)) ac ?_
 rintro _ _ ⟨rfl,rfl⟩
 by_cases hp:p ((i+j) / 2)
 ·rw [aw hp]
  repeat first|refine aa ?_|intro _
  exact ⟨(i,(i+j) / 2),⟨by dsimp only;omega,by dsimp only;omega,h3,fun _=>hp⟩,by dsimp only;omega,aj,Ent.refl _⟩
 ·rw [an hp]
  repeat first|refine aa ?_|intro _
  refine ⟨((i+j) / 2+1,j),⟨by dsimp only;omega,h2,?_,h4⟩,by dsimp only;omega,?_,Ent.refl _⟩
  ·intro k hk hpk
   exact hp (hmono k ((i+j) / 2) (by dsimp only at hk;omega) ab hpk)
  ·dsimp only
   rw [show (((i+j) / 2+1:Nat):Int)=(((i+j) / 2:Nat):Int)+1 by omega]
   exact aj
def psum (ws:List Int) (i:Nat):Int:=(ws.take i).foldl (·+·) 0
theorem jI (ws:List Int) {i:Nat} (h:i<ws.length):psum ws (i+1)=psum ws i+ws[i]!:=by
 unfold psum
 rw [List.take_succ_eq_append_getElem h,List.foldl_append,getElem!_of h]
 rfl
def iT:List Int→Int→Nat
 | [],_=>0
 | w::ws,r=>if r<w then 0 else iT ws (r - w)+1
theorem qW (ws:List Int) (a:Int):ws.foldl (·+·) a=a+ws.foldl (·+·) 0:=by
 induction ws generalizing a with
 | nil=>simp
 | cons w ws ih=>simp only [List.foldl_cons];rw [ih,ih (0+w)];omega
theorem kP (w:Int) (ws:List Int) (i:Nat):psum (w::ws) (i+1)=w+psum ws i:=by
 unfold psum
 rw [List.take_succ_cons,List.foldl_cons,qW]
 omega
theorem px:∀ (ws:List Int) (r:Int) (i:Nat),i<ws.length→(∀ k,k<i→¬r<psum ws (k+1))→r<psum ws (i+1)→iT ws r=i
 | [],r,i,h,_,_=>by simp at h
 | w::ws,r,0,_,_,h2=>by
  rw [kP] at h2
  unfold iT
  rw [if_pos (by simpa [psum] using h2)]
 | w::ws,r,i+1,h,h1,h2=>by
  have h3:=h1 0 ab
  rw [kP] at h3 h2
  unfold iT
  rw [if_neg (by simpa [psum] using h3),px ws (r - w) i (by simpa using h) (fun k hk=>by have:=h1 (k+1) ab;rw [kP] at this;omega) ab]
theorem kO {ws:List Int} (hw:∀ w∈ws,0≤w):∀ {i j:Nat},i≤j→j≤ws.length→psum ws i≤psum ws j:=by
 intro i j
 induction j with
 | zero =>
  intro h _
  have:i=0:=ab
  rw [this]
  exact Int.le_refl _
 | succ j ih =>
  intro h hj
  rcases Nat.lt_or_ge i (j+1) with h1|h1
  ·have:=ih ab ab
   have:=hw _ (ap (show j<ws.length by omega))
   have:=jI ws (show j<ws.length by omega)
   omega
  ·obtain rfl:i=j+1:=ab
   exact Int.le_refl _
abbrev Cq:List Stp:=[.ev 0,.ev 1,.ev 2,.ev 3,.ev 4,.ev 5,.ev 6]
theorem xL (b1 b2:Nat) (r:Int) (ad:Option Addr) (c:Nat) (ss:List Int) (hl:ss.length≤1000000) :
  EC 57 [.pointer (some ⟨b1,0,none⟩),.pointer (some ⟨b2,0,none⟩)] ss.length (fun k=>r<ss[k]!) (aX [obj b1 tInt [.int .i64 r],obj b2 34 [.slice ad ss.length c],isl (encZ .i64) 1 ad ss]):=by
 intro k hk L
 have hii:(k:Int).toNat=k:=ab
 refine Tri.body (args:=[.int .i64 (k:Int),.pointer (some ⟨b1,0,none⟩),.pointer (some ⟨b2,0,none⟩)]) 11 en57 Tryz.func57 rfl rfl rfl (by simp) ?_
 refine G.ent Ent.openS ?_
 simp only [List.cons_append,List.nil_append]
 repeat first|refine aa ?_|intro _|((with_reducible apply G.a7);first|refine G.a6 (N:=11) (id:=1) Cq mixed ah ?_)
 rw [hii]
 exact KX.a6 ai (Ent.e7 (A:=[_,_,_]) (L:=L)) ⟨rfl,rfl⟩
def dg (key:Nat) (ws:List Int) (at_:Nat):Int×Int×Nat:=if (bU key (psum ws ws.length).toNat at_).2.1=0 then ((iT ws (bU key (psum ws ws.length).toNat at_).1:Int),0,(bU key (psum ws ws.length).toNat at_).2.2) else (0,(bU key (psum ws ws.length).toNat at_).2.1,(bU key (psum ws ws.length).toNat at_).2.2)
theorem Cr {L:List HP} (d key at_:Nat) (ad:Option Addr) (n c:Nat) (ws:List Int) [hrd:Rds L ad Int (encZ .i64) 1 ws] (hn:n=ws.length) (hl:ws.length≤1000) (hw:∀ w∈ws,0≤w) (hs:psum ws ws.length≤1152921504606846976) (hs0:0<psum ws ws.length) (hk:key<18446744073709551616) (ha:at_≤1000000000000) :
  Tri Tryz.prog 18 #[.pointer (some ⟨d,0,none⟩),.slice ad n c] (gg d key at_::L) (fun v L'=>v=.tuple #[.int .i64 (dg key ws at_).1,.int .i64 (dg key ws at_).2.1]∧L' = gg d key (dg key ws at_).2.2::L):=by
 subst hn
 refine Tri.body (args:=[.pointer (some ⟨d,0,none⟩),.slice ad ws.length c]) 53 en18 Tryz.func18 rfl rfl rfl (by simp) ?_
 repeat first|refine aa ?_|intro _
 refine GO.ef (Ef.makeSlice (encZ .i64) 0 rfl rfl rfl ab ab ab) ac ?_
 rintro _ _ ⟨bs,rfl,rfl⟩
 rw [Int.toNat_natCast,← hU ws.length (fun k=>psum ws (k+1))]
 repeat first|refine aa ?_|intro _
 rename_i bv
 refine G.loop (α:=Nat) (fun i=>i≤ws.length) (fun i=>[(0,.pointer (some ⟨d,0,none⟩)),(6,.pointer (some ⟨bv,0,none⟩)),(7,.int .i64 (psum ws i)),(15,.slice ad ws.length c),(16,.int .i64 ws.length),(17,.int .i64 (i:Int))])
  (fun i=>obj bv 34 [.slice (some ⟨bs,0,none⟩) ws.length ws.length]::osl (encZ .i64) 1 tInt (some ⟨bs,0,none⟩) ws.length (dO ws.length i (fun k=>psum ws (k+1)))::gg d key at_::L) (fun i=>ws.length - i) 0 (Nat.zero_le _) aj ae ?_
 intro i hi
 have hf1:=iI ws.length i (fun k=>psum ws (k+1))
 by_cases hlt:i<ws.length
 ·have hii:(i:Int).toNat=i:=ab
  have h3:(dO ws.length i (fun k=>psum ws (k+1))).set i (psum ws (i+1))=dO ws.length (i+1) (fun k=>psum ws (k+1)):=iH _ hlt
  have hwi:=hw _ (ap hlt)
  have hps:=jI ws hlt
  have hm1:=kO hw (show i+1≤ws.length by omega) (Nat.le_refl _)
  have hm0:=kO hw (show 0≤i by omega) (show i≤ws.length by omega)
  rw [show psum ws 0=0 from rfl] at hm0
  repeat first|refine aa ?_|intro _
  rw [hii]
  rw [hps] at h3 hm1
  repeat first|refine aa ?_|intro _
  rw [hii,h3]
  refine ⟨i+1,ab,ab,?_,by exact ae⟩
  rw [hps,show ((i+1:Nat):Int)=(i:Int)+1 by omega]
  exact aj
 have hin:i=ws.length:=ab
 subst hin
 obtain ⟨N,hN⟩:∃ N:Nat,psum ws ws.length=(N:Int):=⟨(psum ws ws.length).toNat,ab⟩
 rw [iJ]
 unfold dg
 rw [hN,Int.toNat_natCast]
 repeat first|refine aa ?_|intro _
 (first|refine GO.ef (Ef.call (sr d key at_ N hk ha ab ab) rfl (by repeat (first|exact Ent.refl _|apply Ent.take))) ac ?_)
 rintro _ _ ⟨_,⟨rfl,rfl⟩,hL⟩
 simp only [List.cons_append,List.nil_append] at hL;subst hL
 have hrb:=mg (label:=jt) (key:=key) (n:=N) ab 128 at_
 change 0≤(bU key N at_).1∧(bU key N at_).1<N∧_ at hrb
 generalize bU key N at_=r at hrb
 obtain ⟨r1,r2,r3⟩:=r
 dsimp only at hrb ⊢
 by_cases h5:r2=0
 case neg =>
  rw [if_neg h5]
  repeat first|refine aa ?_|intro _
  exact KX.a6 ai ae ⟨rfl,rfl⟩
 rw [if_pos h5]
 have hsl:((List.range ws.length).map (fun k=>psum ws (k+1))).length=ws.length:=by simp
 repeat first|refine aa ?_|intro _
 rename_i br
 have hwp:0<ws.length:=by
  rcases Nat.eq_zero_or_pos ws.length with h|h
  ·rw [h] at hs0
   exact absurd (show (0:Int)<0 from hs0) ac
  ·exact h
 have hss:∀ k,k<ws.length→((List.range ws.length).map (fun k=>psum ws (k+1)))[k]! = psum ws (k+1):=fun k hk=>dZ (f:=fun k=>psum ws (k+1)) hk
 have htell:=xL br bv r1 (some ⟨bs,0,none⟩) ws.length ((List.range ws.length).map (fun k=>psum ws (k+1))) ab
 rw [hsl] at htell
 refine GO.ent (L':=aX [obj br tInt [.int .i64 r1],obj bv 34 [.slice (some ⟨bs,0,none⟩) ws.length ws.length],isl (encZ .i64) 1 (some ⟨bs,0,none⟩) ((List.range ws.length).map (fun k=>psum ws (k+1)))]::gg d key r3::L) ?_ ?_
 ·refine (Ent.frz (some ⟨bs,0,none⟩)).trans ?_
  refine Ent.trans ?_ Ent.e7
  simp only [List.cons_append,List.nil_append]
  exact ae
 refine GO.ef (Ef.a6 (wj _ [.pointer (some ⟨br,0,none⟩),.pointer (some ⟨bv,0,none⟩)] ws.length (fun k=>r1<((List.range ws.length).map (fun k=>psum ws (k+1)))[k]!) _ ab htell (fun i j hij hj hp=>by have:=kO hw (show i+1≤j+1 by omega) ab;rw [hss i ab] at hp;rw [hss j hj];omega)) rfl) ac ?_
 rintro _ _ ⟨i,rfl,⟨i1,i2,i3⟩,rfl⟩
 have hilt:i<ws.length:=by
  rcases Nat.lt_or_ge i ws.length with h|h
  ·exact h
  ·have h6:=i2 (ws.length - 1) ab
   rw [hss (ws.length - 1) ab,show ws.length - 1+1=ws.length by omega,hN] at h6
   omega
 have hpi:iT ws r1=i:=px ws r1 i hilt (fun k hk=>by have:=i2 k hk;rw [hss k ab] at this;exact this) (by have:=i3 hilt;rw [hss i hilt] at this;exact this)
 rw [hpi]
 repeat first|refine aa ?_|intro _
 exact KX.a6 ai ae ⟨rfl,rfl⟩
end
end Go.Proofs.YtfmgkkofledkbaaGreatDoor
