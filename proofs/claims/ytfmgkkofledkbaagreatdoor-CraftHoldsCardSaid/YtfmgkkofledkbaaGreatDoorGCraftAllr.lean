/- Lemmas and contracts of functions, in the order: Y11, Y12, Y13, Y14. -/
import Derived.Test.YtfmgkkofledkbaaGreatDoorGCraftAllp
import Derived.Test.YtfmgkkofledkbaaGreatDoorGCraftAllq
import Derived.Test.YtfmgkkofledkbaaGreatDoorGCraftAllj
import Derived.Test.YtfmgkkofledkbaaGreatDoorGCraftAllm
set_option linter.all false
set_option maxHeartbeats 8000000
namespace Go.Proofs.YtfmgkkofledkbaaGreatDoor
open Go.V
attribute [local irreducible] G GO GP GPW GPK Ev Ef EfR Ent CB GB V.Enters
section
theorem BV {S:LedM} {s:StM} (h:¬(tryM S s).1=0):cL S s=0:=by unfold cL;rw [if_neg h]
attribute [local irreducible] bI tryM aI cL
theorem zk {L:List HP} (yb lb:Nat) (Y:YardM) (S:LedM) (hS:S.Ok) (hg:CatGood S.cat) (hc:S.cat.Ok) (acc rule times tick:Int) :
  Tri Tryz.prog 81 #[.pointer (some ⟨yb,0,none⟩),.int .i64 acc,.int .i64 rule,.int .i64 times,.int .i64 tick] (bz yb lb Y::LedR lb S::L) (fun v L'=>v=.tuple #[.int .i64 (bI S Y acc rule times tick).1.1,.int .i64 (bI S Y acc rule times tick).1.2]∧L' = bz yb lb (bI S Y acc rule times tick).2.2::LedR lb (bI S Y acc rule times tick).2.1::L):=by
 refine Tri.body (args:=[.pointer (some ⟨yb,0,none⟩),.int .i64 acc,.int .i64 rule,.int .i64 times,.int .i64 tick]) 64 en81 Tryz.func81 rfl rfl rfl (by simp) ?_
 refine G.c6 (f:=ew yb lb Y) ?_
 intro x
 simp only [ew,co,List.cons_append,List.nil_append]
 refine G.c8 ?_
 intro hF
 have hyc:=dq (yb:=yb) (lb:=lb) (Y:=Y) (L:=LedR lb S::L) x hF
 simp only [co] at hyc
 have hno:¬(aM acc∧aV Y.tick S.now tick∧cn times)→bI S Y acc rule times tick=((0,1),S,Y):=by
  intro h
  unfold bI
  rw [if_pos h]
 repeat first|refine aa ?_|intro _
 refine GO.ef (Ef.a6 (gm acc) rfl) ac ?_
 rintro _ _ ⟨rfl,rfl⟩
 by_cases h1:aM acc
 case neg =>
  rw [hno (fun h=>h1 h.1),an h1]
  repeat first|refine aa ?_|intro _
  exact KX.a6 ai (Ent.trans ae hyc) ⟨rfl,rfl⟩
 rw [aw h1]
 repeat first|refine aa ?_|intro _
 refine GO.ent (L':=LedR lb S::obj yb bu (ax lb Y x)::isl (encZ .u8) 1 x.sad Y.seed::osl aq 10 tJob x.jad x.jcap Y.jobs::gmap kvI SlI.v x.om x.m::bigO idsP x.m::L) ae ?_
 refine GO.ef (Ef.a6 (fG yb lb Y x S hS tick) rfl) ac ?_
 rintro _ _ ⟨rfl,rfl⟩
 by_cases h2:aV Y.tick S.now tick
 case neg =>
  rw [hno (fun h=>h2 h.2.1),an h2]
  repeat first|refine aa ?_|intro _
  exact KX.a6 ai (Ent.trans ae hyc) ⟨rfl,rfl⟩
 rw [aw h2]
 repeat first|refine aa ?_|intro _
 refine GO.ef (Ef.a6 (lp times) rfl) ac ?_
 rintro _ _ ⟨rfl,rfl⟩
 by_cases h3:cn times
 case neg =>
  rw [hno (fun h=>h3 h.2.2),an h3]
  repeat first|refine aa ?_|intro _
  exact KX.a6 ai (Ent.trans ae hyc) ⟨rfl,rfl⟩
 rw [aw h3]
 repeat first|refine aa ?_|intro _
 refine GO.ef (Ef.a6 (iN lb S) rfl) ac ?_
 rintro _ _ ⟨c,rfl,⟨hcm,hcB⟩,rfl⟩
 repeat first|refine aa ?_|intro _
 refine GO.ef (Ef.a6 (gt c hcB rule true) rfl) ac ?_
 rintro _ _ (⟨hn,rfl,rfl⟩|⟨hr,rfl,rfl⟩)
 ·rw [hcm] at hn
  have e:bI S Y acc rule times tick=((0,6),S,Y):=by
   unfold bI
   rw [if_neg (fun q=>q ⟨h1,h2,h3⟩),if_pos hn]
  rw [e]
  repeat first|refine aa ?_|intro _
  exact KX.a6 ai (Ent.trans ae hyc) ⟨rfl,rfl⟩
 rw [hcm] at hr
 have hrl:S.cat.rules.length=c.rules.length:=by rw [← hcm];simp [CatV.m]
 have hrn:rule.toNat<c.rules.length:=by have:=hr.1;have:=hr.2.1;omega
 obtain ⟨r,hrv⟩:∃ r,c.rules[rule.toNat]! = r:=⟨_,rfl⟩
 have hrm:S.cat.rules[rule.toNat]! = r.m:=by rw [← hcm,← hrv];exact fD c.rules hrn
 have hrg:RuGood S.cat.items.length r.m:=by rw [← hrm];exact hg.ru _ (ap ab)
 have hgv:S.cat.rules[rule.toNat]!.give=r.give.l:=by rw [hrm];rfl
 have hgl:r.give.l.length≤64:=by have h:=hrg.lim.1;have e:r.m.give.length=r.give.l.length:=rfl;omega
 have hga:AmB r.give.l:=fun a ha=>⟨by have:=hrg.give.1 a ha;omega,(hrg.give.1 a ha).2.2.2⟩
 have ht:0≤times∧times≤1048576:=by unfold cn at h3;omega
 rw [sj ⟨h1,h2,h3⟩ hr hgv,hrv]
 clear hno
 simp only [aA]
 refine GO.ent ((Ent.at (A:=ruP r) ruOpen)) ?_
 repeat first|refine aa ?_|intro _
 rename_i b12
 refine GO.ent (L':=LedR lb S::obj yb bu (ax lb Y x)::isl aB 2 r.give.ad r.give.l::isl (encZ .u8) 1 x.sad Y.seed::osl aq 10 tJob x.jad x.jcap Y.jobs::gmap kvI SlI.v x.om x.m::bigO idsP x.m::L) ae ?_
 refine GO.ef (Ef.a6 (oJ yb lb Y x S hS hc acc r.give.ad r.give.l.length r.give.cap r.give.l times tick rfl hgl hga ht) rfl) ac ?_
 rintro _ _ ⟨rfl,rfl⟩
 obtain ⟨s,hs⟩:∃ s,s=cK acc r.give.l times tick:=⟨_,rfl⟩
 rw [← hs]
 by_cases h10:(tryM S s).1=0
 case neg =>
  rw [if_neg h10,jK h10,BV h10]
  repeat first|refine aa ?_|intro _
  exact KX.a6 ai (Ent.trans ae hyc) ⟨rfl,rfl⟩
 rw [if_pos h10,h10]
 repeat first|refine aa ?_|intro _
 refine KX.a6 ai ?_ ⟨rfl,rfl⟩
 refine Ent.trans ?_ (dq (yb:=yb) (lb:=lb) (Y:={ Y with tick:=tick }) (L:=LedR lb (aI S s)::L) x ⟨hF.cap,hF.opn,hF.full⟩)
 simp only [co,ax]
 exact ae
attribute [local irreducible] bS cB da hitD bU
theorem sf {L:List HP} (ad:Option Addr) (c:Nat) (seed:List Int) [hrd:Rds L ad Int (encZ .u8) 1 seed] (hb:dy seed) (hl:seed.length≤4096) (hcap:seed.length≤c) (r:RuV) (j:JobM) (hid:0≤j.id∧j.id<100) (ht:0≤j.times∧j.times≤1000) (hc:1≤r.chance∧r.chance≤r.of_∧r.of_≤1000000) :
  Tri Tryz.prog 72 #[.slice ad seed.length c,.agg (aq j).toArray,.agg (aA r).toArray] L (fun v L'=>v=.int .i64 (da seed j.id j.times r.chance r.of_)∧L' = L):=by
 obtain ⟨id,acc,hold,rule,times,beg,fin,done,won,lost⟩:=j
 dsimp only at hid ht ⊢
 obtain ⟨n,rfl⟩:∃ n:Nat,id=(n:Int):=⟨id.toNat,ab⟩
 obtain ⟨m,rfl⟩:∃ m:Nat,times=(m:Int):=⟨times.toNat,ab⟩
 rw [nq]
 have hsz:=mO n
 have hadd:craftBA.size+(decS n).size≤1000000000:=by rw [← ByteArray.size_append];omega
 refine Tri.body (args:=[.slice ad seed.length c,.agg (aq ⟨(n:Int),acc,hold,rule,(m:Int),beg,fin,done,won,lost⟩).toArray,.agg (aA r).toArray]) 39 en72 Tryz.func72 rfl rfl rfl (by simp) ?_
 simp only [aA,aq]
 repeat first|refine aa ?_|intro _
 rename_i b4 b5
 refine GO.ef (Ef.a6 (sK n ab) rfl) ac ?_
 rintro _ _ ⟨rfl,rfl⟩
 repeat first|refine aa ?_|intro _
 refine GO.ev (Ev.e7 rfl rfl hadd) ac ?_
 repeat first|refine aa ?_|intro _
 refine GO.ef (Ef.a6 (kD (craftBA++decS n) ad seed.length c seed hb rfl hcap ab ab) rfl) ac ?_
 rintro _ _ ⟨d,rfl,rfl⟩
 have hkl:=ld (aD (craftBA++decS n)) seed
 obtain ⟨key,hkey⟩:∃ key,bS (aD (craftBA++decS n)) seed=key:=⟨_,rfl⟩
 rw [hkey] at hkl ⊢
 clear hkey
 have hb1:=fun k=>jN (key:=key) ⟨hc.1,hc.2.1⟩ k
 repeat first|refine aa ?_|intro _
 refine G.loop (α:=Nat) (fun k=>k≤m) (fun k=>[(4,.pointer (some ⟨b4,0,none⟩)),(5,.pointer (some ⟨b5,0,none⟩)),(7,.pointer (some ⟨d,0,none⟩)),(8,.int .i64 (cB key r.chance r.of_ k).2),(18,.int .i64 (m:Int)),(19,.int .i64 (k:Int))]) (fun k=>gg d key (cB key r.chance r.of_ k).1::obj b5 67 [.string r.name,.bool r.spawn,.int .i64 r.level,.int .i64 r.time,.int .i64 r.chance,.int .i64 r.of_,.slice r.take.ad r.take.l.length r.take.cap,.slice r.give.ad r.give.l.length r.give.cap,.slice r.back.ad r.back.l.length r.back.cap]::obj b4 tJob [.int .i64 (n:Int),.int .i64 acc,.int .i64 hold,.int .i64 rule,.int .i64 (m:Int),.int .i64 beg,.int .i64 fin,.bool done,.int .i64 won,.int .i64 lost]::L) (fun k=>m - k) 0 (Nat.zero_le _) (by rw [gu];exact aj) (by rw [gu];exact ae) ?_
 intro k hk
 by_cases hlt:k<m
 case neg =>
  obtain rfl:k=m:=ab
  repeat first|refine aa ?_|intro _
  exact KX.a6 ai ae ⟨rfl,rfl⟩
 obtain ⟨hb2,hb3,hb4⟩:=hb1 k
 obtain ⟨p,hp⟩:∃ p,hitD key r.chance r.of_ (cB key r.chance r.of_ k).1=p:=⟨_,rfl⟩
 have hs:=lq hp
 obtain ⟨_,_,hbe⟩:=rQ ⟨hc.1,hc.2.1⟩ hp
 repeat first|refine aa ?_|intro _
 refine GO.ef (Ef.a6 (vp d key (cB key r.chance r.of_ k).1 r.chance r.of_ hkl ab ab) rfl) ac ?_
 rw [hp]
 rintro _ _ ⟨rfl,rfl⟩
 obtain ⟨p1,p2,p3⟩:=p
 dsimp only at hs hbe ⊢
 cases p1 with
 | true =>
  rw [if_pos rfl] at hs
  have h0:=hbe rfl
  rw [h0]
  repeat first|refine aa ?_|intro _
  refine ⟨k+1,ab,ab,?_,?_⟩
  ·rw [hs,show ((k+1:Nat):Int)=(k:Int)+1 by omega]
   exact aj
  ·rw [hs]
   exact ae
 | false =>
  rw [if_neg ac] at hs
  by_cases h0:p2=0
  ·repeat first|refine aa ?_|intro _
   refine ⟨k+1,ab,ab,?_,?_⟩
   ·rw [hs,show ((k+1:Nat):Int)=(k:Int)+1 by omega]
    exact aj
   ·rw [hs]
    exact ae
  ·repeat first|refine aa ?_|intro _
   refine ⟨k+1,ab,ab,?_,?_⟩
   ·rw [hs,show ((k+1:Nat):Int)=(k:Int)+1 by omega]
    exact aj
   ·rw [hs]
    exact ae
end
section
abbrev ruC (r:RuV):List Value:=[.string r.name,.bool r.spawn,.int .i64 r.level,.int .i64 r.time,.int .i64 r.chance,.int .i64 r.of_,.slice r.take.ad r.take.l.length r.take.cap,.slice r.give.ad r.give.l.length r.give.cap,.slice r.back.ad r.back.l.length r.back.cap]
abbrev eb:Nat:=22
abbrev BF:Nat:=205
abbrev xk:List Stp:=[.ev 0,.ev 1,.ev 2,.ev 3,.ev 4,.ev 5,.ev 6,.ef 7,.ev 8]
theorem kF {φ ψ:Prop} (k:ψ) (h:Hid ψ→φ:=by intro k;(with_reducible apply G.a7);first|refine G.a6 (N:=13) (id:=1) xk mixed ah (Hid.out k)):φ:=h ⟨k⟩
theorem CS {L:List HP} (br bj:Nat) (r:RuV) (jad:Option Addr) (jcap k:Nat) (js:List JobM) (hk:k<js.length) (had:oD jad) (times:Int) (ht:0≤times∧times≤1048576) (hl:r.take.l.length≤64) (ha:AmB r.take.l) :
  Tri Tryz.prog 117 #[.int .i64 times,.pointer (some ⟨br,0,none⟩),.pointer (some ⟨bj,0,none⟩)] (obj br tRu (ruC r)::obj bj ju [.pointer (elP jad 10 k 0)]::osl aq 10 tJob jad jcap js::amS r.take::L) (fun v L'=>∃ ad' cap',v=.slice ad' r.take.l.length cap'∧L' = osl aJ 5 tMv ad' cap' (r.take.l.map (bV times js[k]!.hold 0))::obj br tRu (ruC r)::obj bj ju [.pointer (elP jad 10 k 0)]::osl aq 10 tJob jad jcap js::amS r.take::L):=by
 refine Tri.body (args:=[.int .i64 times,.pointer (some ⟨br,0,none⟩),.pointer (some ⟨bj,0,none⟩)]) 13 Js Tryz.func117 rfl rfl rfl (by simp) ?_
 simp only [ruC]
 repeat first|refine aa ?_|intro _|refine kF ?_
 refine GPW.evP (Ev.a7 rfl had) ac ?_
 repeat first|refine aa ?_|intro _|refine kF ?_
 refine GPW.ef (Ef.a6 (jA r.take.ad r.take.l.length r.take.cap r.take.l times js[k]!.hold 0 rfl hl ha ht) rfl) ac ?_
 rintro _ _ ⟨ad2,cap2,rfl,rfl⟩
 repeat first|refine aa ?_|intro _|refine kF ?_
 exact KX.a6 ai (Ent.refl _) ⟨ad2,cap2,rfl,rfl⟩
attribute [local irreducible] tryM aI cL
abbrev xj:List Stp:=[.ev 0,.ev 1,.ev 2,.ev 3,.ev 4,.ev 5,.ev 6,.ev 7,.ev 8,.ev 9,.ev 10,.ev 11,.ef 12,.ef 13]
abbrev xi:List Stp:=[.ev 0,.ev 1,.ev 3,.ev 4,.ev 5,.ev 6,.ev 7,.ev 8,.ef 2,.ef 9,.ef 10,.ev 11,.ef 12]
abbrev xh:List Stp:=[.ev 0,.ev 1,.ev 2,.ev 3,.ev 4,.ev 5,.ef 6,.ev 7,.ev 8,.ev 9,.ev 10,.ev 11]
theorem em {φ ψ:Prop} (k:ψ) (h:Hid ψ→φ:=by intro k;(with_reducible apply G.a7);first|refine G.a6 (N:=50) (id:=1) xj mixed ah (Hid.out k)|refine G.a6 (N:=50) (id:=2) xi mixed ah (Hid.out k)|refine G.a6 (N:=50) (id:=3) xh mixed ah (Hid.out k)):φ:=h ⟨k⟩
theorem sY {L:List HP} (yb lb bj byb bt br:Nat) (Y:YardM) (x:YardX) (S:LedM) (hS:S.Ok) (hc:S.cat.Ok) (r:RuV) (jad:Option Addr) (jcap k:Nat) (js:List JobM) (hk:k<js.length) (had:oD jad) (rule times:Int) (gad:Option Addr) (gcap:Nat) (gl:List (Int×Int)) (ht:0≤times∧times≤1048576) (hl:r.take.l.length+gl.length≤64) (ha:AmB r.take.l) (hga:AmB gl) (hru:I64 rule) (s:StM) (hs:s=gn js[k]!.acc js[k]!.hold r.take.l gl times rule Y.tick) :
  Tri Tryz.prog 118 #[.int .i64 rule,.int .i64 times,.slice gad gl.length gcap,.pointer (some ⟨bj,0,none⟩),.pointer (some ⟨byb,0,none⟩),.pointer (some ⟨bt,0,none⟩)]
   (LedR lb S::obj bt BF [.func (.func 117) #[] #[.pointer (some ⟨br,0,none⟩),.pointer (some ⟨bj,0,none⟩)]]::obj byb eb [.pointer (some ⟨yb,0,none⟩)]::obj yb bu (ax lb Y x)::obj br tRu (ruC r)::obj bj ju [.pointer (elP jad 10 k 0)]::osl aq 10 tJob jad jcap js::amS r.take::isl aB 2 gad gl::L)
   (fun v L'=>v=.int .i64 (if (tryM S s).1=0 then times else 0)∧L' = LedR lb (aI S s)::obj bt BF [.func (.func 117) #[] #[.pointer (some ⟨br,0,none⟩),.pointer (some ⟨bj,0,none⟩)]]::obj byb eb [.pointer (some ⟨yb,0,none⟩)]::obj yb bu (ax lb Y x)::obj br tRu (ruC r)::obj bj ju [.pointer (elP jad 10 k 0)]::osl aq 10 tJob jad jcap js::amS r.take::isl aB 2 gad gl::L):=by
 refine Tri.body (args:=[.int .i64 rule,.int .i64 times,.slice gad gl.length gcap,.pointer (some ⟨bj,0,none⟩),.pointer (some ⟨byb,0,none⟩),.pointer (some ⟨bt,0,none⟩)]) 50 Jr Tryz.func118 rfl rfl rfl (by simp) ?_
 repeat first|refine aa ?_|intro _|refine em ?_
 refine GPW.evP (Ev.a7 rfl had) ac ?_
 repeat first|refine aa ?_|intro _|refine em ?_
 rename_i b10
 have hl1:(r.take.l.map (bV times js[k]!.hold 0)).length=r.take.l.length:=by rw [List.length_map]
 have hl2:(gl.map (bV times 0 js[k]!.acc)).length=gl.length:=by rw [List.length_map]
 repeat first|refine aa ?_|intro _|refine em ?_
 refine GPW.evP (Ev.a7 rfl had) ac ?_
 repeat first|refine aa ?_|intro _|refine em ?_
 (first|refine GPW.ef (Ef.j5 rfl rfl (CS (L:=[]) br bj r jad jcap k js hk had times ht ab ha) (by repeat (first|exact Ent.refl _|apply Ent.take))) ac ?_)
 rintro _ _ ⟨_,⟨ad1,cap1,rfl,rfl⟩,hL⟩
 simp only [List.cons_append,List.nil_append] at hL;subst hL
 repeat first|refine aa ?_|intro _|refine em ?_
 refine GPW.ef (Ef.a6 (jA gad gl.length gcap gl times 0 js[k]!.acc rfl ab hga ht) rfl) ac ?_
 rintro _ _ ⟨ad2,cap2,rfl,rfl⟩
 repeat first|refine aa ?_|intro _|refine em ?_
 refine GPW.ef (Ef.c6 (ad:=ad1) (enc:=aJ) (xs:=r.take.l.map (bV times js[k]!.hold 0)) (ys:=gl.map (bV times 0 js[k]!.acc)) rfl rfl hl1.symm rfl hl2.symm (fun e _=>ge e) ab ab) ac ?_
 rintro _ _ ⟨ad3,cap3,rfl,rfl⟩
 repeat first|refine aa ?_|intro _|refine em ?_
 obtain ⟨ms,hms⟩:∃ ms,ms=r.take.l.map (bV times js[k]!.hold 0)++gl.map (bV times 0 js[k]!.acc):=⟨_,rfl⟩
 have hml:ms.length≤64:=by rw [hms,List.length_append];omega
 have hmp:MvPlain ms:=by rw [hms];exact (MvPlain.mk _ _ _ _).app (MvPlain.mk _ _ _ _)
 have hst:cw 4 js[k]!.acc Y.tick rule times (ms.map (·.m))=s:=by rw [hms,rJ,hs];rfl
 rw [← hms]
 have hpost:=fun L=>Es (L:=L) lb S hS hc 4 js[k]!.acc Y.tick rule times ad3 ms.length cap3 ms rfl (by unfold cT;omega) ab hru hmp
 rw [hst] at hpost
 refine GPW.ef (Ef.a6 (Tri.pre (hpost _) ae) rfl) ac ?_
 rintro _ _ ⟨rfl,rfl⟩
 by_cases h10:(tryM S s).1=0
 ·rw [if_pos h10]
  repeat first|refine aa ?_|intro _|refine em ?_
  exact KX.a6 ai ae ⟨rfl,rfl⟩
 ·rw [if_neg h10]
  repeat first|refine aa ?_|intro _|refine em ?_
  exact KX.a6 ai ae ⟨rfl,rfl⟩
theorem uW {js:List JobM} {k:Nat} {j:JobM} (ha:j.acc=js[k]!.acc) (hd:j.done=js[k]!.done) (a:Int):aG (js.set k j) a=aG js a:=by
 unfold aG
 rw [List.length_set]
 congr 1
 apply List.filter_congr
 intro i hi
 rw [dj (List.mem_range.1 hi)]
 by_cases e:i=k
 ·rw [if_pos e,ha,hd,e]
 ·rw [if_neg e]
attribute [local irreducible] eD dH da gbM endJ
abbrev Ac:List Stp:=[.ev 0,.ev 1,.ev 2,.ev 3,.ev 4,.ev 5,.ev 6,.ev 7,.ef 8,.ev 9]
abbrev Ab:List Stp:=[.ev 0,.ev 1,.ev 2,.ev 3,.ev 4,.ev 5,.ev 6,.ev 7,.ev 8,.ef 9,.ev 10,.ev 11,.ef 12]
abbrev Aa:List Stp:=[.ev 0,.ev 1,.ev 2,.ev 3,.ev 4,.ev 5,.ev 6,.ev 7,.ev 8,.ev 9,.ev 10,.ev 11,.ev 12,.ev 13,.ev 14,.ef 15,.ev 16,.ev 17,.ef 18]
abbrev zZ:List Stp:=[.ev 0,.ev 1,.ev 2,.ev 3,.ev 4,.ev 5,.ev 6,.ev 7,.ev 8,.ev 9,.ev 10,.ef 11]
theorem bJ {φ ψ:Prop} (k:ψ) (h:Hid ψ→φ:=by intro k;(with_reducible apply G.a7);first|refine G.a6 (N:=80) (id:=4) Ac mixed ah (Hid.out k)|refine G.a6 (N:=80) (id:=7) Ab mixed ah (Hid.out k)|refine G.a6 (N:=80) (id:=8) Aa mixed ah (Hid.out k)|refine G.a6 (N:=80) (id:=9) zZ mixed ah (Hid.out k)):φ:=h ⟨k⟩
theorem DX {L:List HP} (yb lb:Nat) (Y:YardM) (hY:Y.Ok) (x:YardX) (hF:YardF Y x) (S:LedM) (hS:S.Ok) (hg:CatGood S.cat) (hc:S.cat.Ok) (k:Nat) (hk:k<Y.jobs.length) (hr:dG S.cat.rules Y.jobs[k]!.rule false) :
  Tri Tryz.prog 69 #[.pointer (some ⟨yb,0,none⟩),.pointer (elP x.jad 10 k 0)] (LedR lb S::co yb lb Y x L) (fun _ L'=>∃ m',YardF (endM Y.tick (S,Y) k).2 { x with m:=m' }∧L' = LedR lb (endM Y.tick (S,Y) k).1::co yb lb (endM Y.tick (S,Y) k).2 { x with m:=m' } L):=by
 have hjl:=hY.len
 obtain ⟨hid,hhold⟩:=hY.id k hk
 obtain ⟨n1,n2,n3,n4⟩:=hY.num k hk
 unfold cn at n2
 obtain ⟨j,hj⟩:∃ j,Y.jobs[k]! = j:=⟨_,rfl⟩
 rw [hj] at hid hhold n1 n2 n3 n4 hr
 refine Tri.body (args:=[.pointer (some ⟨yb,0,none⟩),.pointer (elP x.jad 10 k 0)]) 80 en69 Tryz.func69 rfl rfl rfl (by simp) ?_
 repeat first|refine aa ?_|intro _|refine bJ ?_
 rename_i byb bj
 refine GO.ent (L':=co yb lb Y x (LedR lb S::obj bj ju [.pointer (elP x.jad 10 k 0)]::obj byb eb [.pointer (some ⟨yb,0,none⟩)]::L)) (by simp only [co];exact ae) ?_
 refine GO.ef (Ef.a6 (pg yb lb Y hY x hF k hk) rfl) ac ?_
 rintro _ _ ⟨m1,hF1,rfl⟩
 obtain ⟨js,hjs⟩:∃ js,js=Y.jobs.set k (finJ Y.jobs[k]!):=⟨_,rfl⟩
 have hjsl:js.length=Y.jobs.length:=by rw [hjs];exact List.length_set ..
 have hjk:js[k]! = finJ j:=by rw [hjs,dj hk,if_pos rfl,hj]
 have hkj:k<js.length:=ab
 have hyl:(finY Y k).jobs=js:=hjs.symm
 refine GO.c9 (pz (ad:=x.jad) (cap:=x.jcap) (xs:=(finY Y k).jobs) (enc:=aq) (sz:=10) (E:=tJob) (by rw [hyl];omega:0<(finY Y k).jobs.length)) ?_
 intro had
 refine GO.ent (L':=LedR lb S::obj bj ju [.pointer (elP x.jad 10 k 0)]::obj byb eb [.pointer (some ⟨yb,0,none⟩)]::obj yb bu (ax lb Y x)::osl aq 10 tJob x.jad x.jcap js::isl (encZ .u8) 1 x.sad Y.seed::gmap kvI SlI.v x.om m1::bigO idsP m1::L) ?_ ?_
 ·have e:ax lb (finY Y k) { x with m:=m1 }=ax lb Y x:=by simp only [ax];rw [hyl,hjsl];rfl
  simp only [co]
  rw [e,hyl]
  show Ent (obj yb bu (ax lb Y x)::isl (encZ .u8) 1 x.sad Y.seed::osl aq 10 tJob x.jad x.jcap js::gmap kvI SlI.v x.om m1::bigO idsP m1::_) _
  exact ae
 have hrl:js[k]!.rule=j.rule:=by rw [hjk];rfl
 have hrj:dG S.cat.rules js[k]!.rule false:=by rw [hrl];exact hr
 repeat first|((fail_if_success (with_reducible refine G.atS 2 ?_));(with_reducible apply G.seq))|refine aL ?_|intro _|refine bJ ?_
 refine G.a8 (α:=Nat×RuV) (fun z=>S.cat.rules[j.rule.toNat]! = z.2.m) (fun z=>[(2,.pointer (some ⟨byb,0,none⟩)),(3,.pointer (some ⟨bj,0,none⟩)),(4,.pointer (some ⟨z.1,0,none⟩)),(5,.bool true)]) (fun z=>obj z.1 tRu (ruC z.2)::ruP z.2::LedR lb S::obj bj ju [.pointer (elP x.jad 10 k 0)]::obj byb eb [.pointer (some ⟨yb,0,none⟩)]::obj yb bu (ax lb Y x)::osl aq 10 tJob x.jad x.jcap js::isl (encZ .u8) 1 x.sad Y.seed::gmap kvI SlI.v x.om m1::bigO idsP m1::L) ?_ ?_
 ·have hrm:∀ c:CatV,c.m=S.cat→S.cat.rules[j.rule.toNat]! = c.rules[js[k]!.rule.toNat]!.m:=by
   intro c hcm
   have hl:S.cat.rules.length=c.rules.length:=by rw [← hcm];simp [CatV.m]
   have h0:=hr.1
   have h1:=hr.2.1
   rw [hrl,← hcm]
   exact fD c.rules ab
  refine G.d8 mixed ah ?_
  refine GF.evL (i:=0) rfl ah (Ev.c6 rfl rfl) ac ?_
  refine GF.evP (i:=1) rfl ah (Ev.nilCheck rfl) ac ?_
  refine GF.evP (i:=2) rfl ah (Ev.fieldAddr rfl) ac ?_
  refine GF.evP (i:=3) rfl ah (Ev.fieldAddr rfl) ac ?_
  refine GF.evL (i:=4) rfl ah (Ev.c6 rfl rfl) ac ?_
  refine GF.evL (i:=6) rfl ah (Ev.c6 rfl rfl) ac ?_
  refine GF.evP (i:=7) rfl ah (Ev.a7 rfl had) ac ?_
  refine GF.evL (i:=8) rfl ah (Ev.a8 rfl ab) ac ?_
  refine GF.evL (i:=9) rfl ah (Ev.a6 rfl hkj ac rfl) ac ?_
  refine GF.a6 5 14 ah ?_ ?_
  ·refine GE.ef rfl (Ef.a6 (iN lb S) rfl) ac ?_
   rintro _ _ ⟨c,rfl,⟨hcm,hcB⟩,rfl⟩
   refine ⟨(by intro pe hp;simp only [List.mem_cons,List.not_mem_nil,or_false] at hp;rcases hp with rfl|rfl|rfl|rfl|rfl<;>first|exact Ev.c6 rfl rfl|exact Ev.a6 rfl hkj ac rfl|exact Ev.a8 rfl ab),?_⟩
   refine GF.a6 10 14 ah ?_ ?_
   ·refine GE.ef rfl (Ef.a6 (gt c hcB js[k]!.rule false) rfl) ac ?_
    rintro _ _ (⟨hn,rfl,rfl⟩|⟨_,rfl,rfl⟩)
    ·rw [hcm] at hn
     exact absurd hrj hn
    refine ⟨(by intro pe hp;simp only [List.mem_cons,List.not_mem_nil,or_false] at hp;rcases hp with rfl|rfl|rfl|rfl|rfl<;>first|exact Ev.c6 rfl rfl|exact Ev.a6 rfl hkj ac rfl|exact Ev.a8 rfl ab),?_⟩
    simp only [aA]
    refine GF.plan [.ev 11,.ev 12,.ev 13,.ef 14,.ef 15,.ev 16] ah rfl ?_
    repeat first|refine aa ?_|intro _|refine bJ ?_
    exact ⟨(_,c.rules[js[k]!.rule.toNat]!),hrm c hcm,aj,by exact ae⟩
   ·refine GE.ef rfl Ef.alloc ac ?_
    rintro _ _ ⟨gp,rfl,rfl⟩
    refine ⟨(by intro pe hp;simp only [List.mem_cons,List.not_mem_nil,or_false] at hp;rcases hp with rfl|rfl|rfl|rfl|rfl<;>first|exact Ev.c6 rfl rfl|exact Ev.a6 rfl hkj ac rfl|exact Ev.a8 rfl ab),?_⟩
    refine GF.plan [.ef 10,.ev 11,.ev 12,.ev 13,.ef 15,.ev 16] ah rfl ?_
    repeat first|refine aa ?_|intro _|refine bJ ?_
    (first|refine GPW.ef (Ef.call (gt (L:=[]) c hcB js[k]!.rule false) rfl (by repeat (first|exact Ent.refl _|apply Ent.take))) ac ?_)
    rintro _ _ ⟨_,(⟨hn,rfl,rfl⟩|⟨_,rfl,rfl⟩),hL⟩
    ·rw [hcm] at hn
     exact absurd hrj hn
    simp only [List.cons_append,List.nil_append] at hL;subst hL
    simp only [aA]
    repeat first|refine aa ?_|intro _|refine bJ ?_
    exact ⟨(_,c.rules[js[k]!.rule.toNat]!),hrm c hcm,aj,by exact ae⟩
  ·refine GE.ef rfl Ef.alloc ac ?_
   rintro _ _ ⟨gp,rfl,rfl⟩
   refine ⟨(by intro pe hp;simp only [List.mem_cons,List.not_mem_nil,or_false] at hp;rcases hp with rfl|rfl|rfl|rfl|rfl<;>first|exact Ev.c6 rfl rfl|exact Ev.a6 rfl hkj ac rfl|exact Ev.a8 rfl ab),?_⟩
   refine GF.plan [.ef 5,.ef 10,.ev 11,.ev 12,.ev 13,.ef 15,.ev 16] ah rfl ?_
   repeat first|refine aa ?_|intro _|refine bJ ?_
   (first|refine GPW.ef (Ef.call (iN (L:=[]) lb S) rfl (by repeat (first|exact Ent.refl _|apply Ent.take))) ac ?_)
   rintro _ _ ⟨_,⟨c,rfl,⟨hcm,hcB⟩,rfl⟩,hL⟩
   simp only [List.cons_append,List.nil_append] at hL;subst hL
   repeat first|refine aa ?_|intro _|refine bJ ?_
   (first|refine GPW.ef (Ef.call (gt (L:=[]) c hcB js[k]!.rule false) rfl (by repeat (first|exact Ent.refl _|apply Ent.take))) ac ?_)
   rintro _ _ ⟨_,(⟨hn,rfl,rfl⟩|⟨_,rfl,rfl⟩),hL⟩
   ·rw [hcm] at hn
    exact absurd hrj hn
   simp only [List.cons_append,List.nil_append] at hL;subst hL
   simp only [aA]
   repeat first|refine aa ?_|intro _|refine bJ ?_
   exact ⟨(_,c.rules[js[k]!.rule.toNat]!),hrm c hcm,aj,by exact ae⟩
 rintro ⟨b4,r⟩ hrm
 dsimp only at hrm ⊢
 have hrg0:=hg.ru _ (ap (show j.rule.toNat<S.cat.rules.length by have:=hr.1;have:=hr.2.1;omega))
 rw [hrm] at hrg0
 have hr0:=hr.1
 have hr1:=hr.2.1
 have h64:=hg.rules
 obtain ⟨_,_,hof,hch1,hch2⟩:=hrg0.num
 obtain ⟨hgt1,hgt2⟩:=hrg0.take
 have htl:r.take.l.length+r.give.l.length≤64:=hrg0.lim.1
 have htl2:r.take.l.length+r.back.l.length≤64:=hrg0.lim.2
 have hga:AmB r.take.l:=fun a ha=>⟨by have:=hgt1 a ha;omega,(hgt1 a ha).2.2.2⟩
 have hgb:AmB r.give.l:=fun a ha=>⟨by have:=hrg0.give.1 a ha;omega,(hrg0.give.1 a ha).2.2.2⟩
 have hgc:AmB r.back.l:=fun a ha=>⟨by have:=hrg0.back.1 a ha;omega,(hrg0.back.1 a ha).2.2.2⟩
 have hja:js[k]!.acc=j.acc:=by rw [hjk];rfl
 have hjh:js[k]!.hold=j.hold:=by rw [hjk];rfl
 have hji:js[k]!.id=j.id:=by rw [hjk];rfl
 have hjt:js[k]!.times=j.times:=by rw [hjk];rfl
 obtain ⟨won,hwon⟩:∃ won,da Y.seed js[k]!.id js[k]!.times r.chance r.of_=won:=⟨_,rfl⟩
 have hwb:=lU (seed:=Y.seed) (id:=js[k]!.id) (times:=js[k]!.times) (show 1≤r.chance∧r.chance≤r.of_ from ⟨hch1,hch2⟩) ab
 rw [hwon] at hwb
 have hsucc:=fun (L:List HP) (h:Rds L x.sad Int (encZ .u8) 1 Y.seed)=>sf (L:=L) x.sad x.scap Y.seed hY.seed.1 hY.seed.2 hF.cap r js[k]! ab ab ⟨hch1,hch2,hof.2⟩
 rw [hwon] at hsucc
 refine G.ent (Ent.at (A:=ruP r) ruOpen) ?_
 repeat first|refine aa ?_|intro _|refine bJ ?_
 refine GPW.evP (Ev.a7 rfl had) ac ?_
 repeat first|refine aa ?_|intro _|refine bJ ?_
 refine GPW.ef (Ef.a6 (hsucc _ inferInstance) rfl) ac ?_
 rintro _ _ ⟨rfl,rfl⟩
 repeat first|refine aa ?_|intro _|refine bJ ?_
 rename_i bt
 refine GPW.evP (Ev.a7 rfl had) ac ?_
 repeat first|refine aa ?_|intro _|refine bJ ?_
 obtain ⟨s1,hs1⟩:∃ s,s=gn js[k]!.acc js[k]!.hold r.take.l r.give.l won js[k]!.rule Y.tick:=⟨_,rfl⟩
 have hp1:eD S j won false Y.tick=(if (tryM S s1).1=0 then won else 0,aI S s1):=mq (by rw [hrm,hs1,hja,hjh,hrl];rfl)
 obtain ⟨S1,hS1⟩:∃ S1,aI S s1=S1:=⟨_,rfl⟩
 obtain ⟨w1,hw1⟩:∃ w,(if (tryM S s1).1=0 then won else 0)=w:=⟨_,rfl⟩
 have he2:=sY (L:=[]) yb lb bj byb bt b4 Y x S hS hc r x.jad x.jcap k js hkj had js[k]!.rule won r.give.ad r.give.cap r.give.l ab htl hga hgb (by unfold I64;omega) s1 hs1
 rw [hw1,hS1] at he2
 rw [hw1,hS1] at hp1
 obtain ⟨p1,p2⟩:=mp hS j won false Y.tick
 rw [hp1] at p1 p2
 dsimp only at p1 p2
 (first|refine GPW.ef (Ef.j5 rfl rfl (he2) (by repeat (first|exact Ent.refl _|apply Ent.take))) ac ?_)
 rintro _ _ ⟨_,⟨rfl,rfl⟩,hL⟩
 simp only [List.cons_append,List.nil_append] at hL;subst hL
 clear he2
 repeat first|refine aa ?_|intro _|refine bJ ?_
 refine GPW.evP (Ev.a7 rfl had) ac ?_
 repeat first|refine aa ?_|intro _|refine bJ ?_
 refine GPW.efu (Ef.f8 (enc:=aq) ({ js[k]! with won:=w1 }:JobM) rfl rfl rfl rfl hkj ac) ?_
 rintro _ _ rfl
 obtain ⟨js2,hjs2⟩:∃ js2,js2=js.set k { js[k]! with won:=w1 }:=⟨_,rfl⟩
 have hjs2l:js2.length=js.length:=by rw [hjs2];exact List.length_set ..
 have hjk2:js2[k]! = { js[k]! with won:=w1 }:=by rw [hjs2,dj hkj,if_pos rfl]
 have hkj2:k<js2.length:=ab
 have hja2:js2[k]!.acc=j.acc:=by rw [hjk2];exact hja
 have hjh2:js2[k]!.hold=j.hold:=by rw [hjk2];exact hjh
 have hjt2:js2[k]!.times=j.times:=by rw [hjk2];exact hjt
 have hrl2:js2[k]!.rule=j.rule:=by rw [hjk2];exact hrl
 rw [← hjs2]
 repeat first|refine aa ?_|intro _|refine bJ ?_
 refine GPW.evP (Ev.a7 rfl had) ac ?_
 repeat first|refine aa ?_|intro _|refine bJ ?_
 refine GPW.evP (Ev.a7 rfl had) ac ?_
 repeat first|refine aa ?_|intro _|refine bJ ?_
 obtain ⟨s2,hs2⟩:∃ s,s=gn js2[k]!.acc js2[k]!.hold r.take.l r.back.l (js2[k]!.times - won) (-2 - js2[k]!.rule) Y.tick:=⟨_,rfl⟩
 have hq1:eD S1 j (j.times - won) true Y.tick=(if (tryM S1 s2).1=0 then js2[k]!.times - won else 0,aI S1 s2):=by
  rw [hjt2]
  refine mq ?_
  rw [p2,hrm,hs2,hja2,hjh2,hrl2,hjt2]
  rfl
 obtain ⟨S2,hS2⟩:∃ S2,aI S1 s2=S2:=⟨_,rfl⟩
 obtain ⟨w2,hw2⟩:∃ w,(if (tryM S1 s2).1=0 then js2[k]!.times - won else 0)=w:=⟨_,rfl⟩
 have he3:=sY (L:=[]) yb lb bj byb bt b4 Y x S1 p1 (by rw [p2];exact hc) r x.jad x.jcap k js2 hkj2 had (-2 - js2[k]!.rule) (js2[k]!.times - won) r.back.ad r.back.cap r.back.l ab htl2 hga hgc (by unfold I64;omega) s2 hs2
 rw [hw2,hS2] at he3
 rw [hw2,hS2] at hq1
 obtain ⟨q1,q2⟩:=mp p1 j (j.times - won) true Y.tick
 rw [hq1] at q1 q2
 dsimp only at q1 q2
 (first|refine GPW.ef (Ef.j5 rfl rfl (he3) (by repeat (first|exact Ent.refl _|apply Ent.take))) ac ?_)
 rintro _ _ ⟨_,⟨rfl,rfl⟩,hL⟩
 simp only [List.cons_append,List.nil_append] at hL;subst hL
 clear he3
 repeat first|refine aa ?_|intro _|refine bJ ?_
 refine GPW.evP (Ev.a7 rfl had) ac ?_
 repeat first|refine aa ?_|intro _|refine bJ ?_
 refine GPW.efu (Ef.f8 (enc:=aq) ({ js2[k]! with lost:=w2 }:JobM) rfl rfl rfl rfl hkj2 ac) ?_
 rintro _ _ rfl
 obtain ⟨js3,hjs3⟩:∃ js3,js3=js2.set k { js2[k]! with lost:=w2 }:=⟨_,rfl⟩
 have hjk3:js3[k]! = { js2[k]! with lost:=w2 }:=by rw [hjs3,dj hkj2,if_pos rfl]
 have hjs3l:js3.length=js2.length:=by rw [hjs3];exact List.length_set ..
 have hkj3:k<js3.length:=ab
 have hja3:js3[k]!.acc=j.acc:=by rw [hjk3];exact hja2
 have hjh3:js3[k]!.hold=j.hold:=by rw [hjk3];exact hjh2
 rw [← hjs3]
 repeat first|refine aa ?_|intro _|refine bJ ?_
 refine GPW.evP (Ev.a7 rfl had) ac ?_
 repeat first|refine aa ?_|intro _|refine bJ ?_
 refine GPW.evP (Ev.a7 rfl had) ac ?_
 repeat first|refine aa ?_|intro _|refine bJ ?_
 refine GPW.ent (L':=LedR lb S2::obj yb bu (ax lb Y x)::isl (encZ .u8) 1 x.sad Y.seed::osl aq 10 tJob x.jad x.jcap js3::gmap kvI SlI.v x.om m1::bigO idsP m1::obj bj ju [.pointer (elP x.jad 10 k 0)]::obj byb eb [.pointer (some ⟨yb,0,none⟩)]::L) ae ?_
 have hgbk:=fun L=>nb (L:=L) yb lb Y x S2 q1 (by rw [q2,p2];exact hc) (by rw [q2,p2];exact hg.items) js3[k]!.hold js3[k]!.acc
 rw [show S2.cat.items.length=S.cat.items.length by rw [q2,p2]] at hgbk
 refine GPW.ef (Ef.a6 (hgbk _) rfl) ac ?_
 rintro _ _ rfl
 repeat first|refine aa ?_|intro _|refine bJ ?_
 obtain ⟨jn,hjn⟩:∃ jn:JobM,jn={ j with done:=true,won:=w1,lost:=w2 }:=⟨_,rfl⟩
 have hend:endM Y.tick (S,Y) k=(gbM j.acc Y.tick j.hold S2 S.cat.items.length,{ Y with jobs:=Y.jobs.set k jn }):=by
  unfold endM
  dsimp only
  rw [hj,yO (won:=won) (by rw [hrm,← hji,← hjt];exact hwon) hp1 p2 hq1,hjn]
 have hjs3e:js3=Y.jobs.set k jn:=by
  rw [hjs3,hjk2,hjs2,hjk,hjs,List.set_set,List.set_set,hjn]
  rfl
 have hF3:YardF { Y with jobs:=Y.jobs.set k jn } { x with m:=m1 }:=by
  refine ⟨hF.cap,fun a=>?_,hF1.full⟩
  have h1:=hF1.opn a
  have h2:aG (Y.jobs.set k jn) a=aG (finY Y k).jobs a:=by
   have h3:=uW (js:=(finY Y k).jobs) (k:=k) (j:=jn) (by rw [hyl,hja,hjn]) (by rw [hyl,hjk,hjn];rfl) a
   rw [hyl,hjs,List.set_set] at h3
   rw [hyl,hjs]
   exact h3
  exact h1.trans h2.symm
 rw [hend]
 refine KX.a8 ai ?_ ⟨m1,hF3,rfl⟩
 dsimp only
 rw [hja3,hjh3,hjs3e]
 simp only [co,ax,List.length_set]
 exact ae
end
section
def endI (js:List JobM) (tick:Int) (l:List Int):List Int:=l.filter (fun i=>decide (js[i.toNat]!.fin≤tick))
def outI (js:List JobM) (tick:Int) (z:List (Int×SlI)):List Int:=z.flatMap (fun p=>endI js tick p.2.ids)
theorem yP {js:List JobM} {tick:Int} {l:List Int} {i:Int} (h:js[i.toNat]!.fin≤tick):endI js tick (l++[i])=endI js tick l++[i]:=by
 have e2:List.filter (fun i:Int=>decide (js[i.toNat]!.fin≤tick)) [i]=[i]:=List.filter_cons_of_pos (l:=[]) (decide_eq_true h)
 unfold endI
 rw [List.filter_append,e2]
theorem vB {js:List JobM} {tick:Int} {l:List Int} {i:Int} (h:¬js[i.toNat]!.fin≤tick):endI js tick (l++[i])=endI js tick l:=by
 have e2:List.filter (fun i:Int=>decide (js[i.toNat]!.fin≤tick)) [i]=[]:=List.filter_cons_of_neg (l:=[]) (by rw [decide_eq_true_eq];exact h)
 unfold endI
 rw [List.filter_append,e2,List.append_nil]
theorem sA (js:List JobM) (tick:Int) (z:List (Int×SlI)) (p:Int×SlI):outI js tick (z++[p])=outI js tick z++endI js tick p.2.ids:=by
 unfold outI
 rw [List.flatMap_append]
 simp
theorem openIds_mem {js:List JobM} {a i:Int}:i∈aG js a↔∃ k:Nat,i=(k:Int)∧k<js.length∧js[k]!.acc=a∧js[k]!.done=false:=by
 unfold aG
 rw [List.mem_map]
 constructor
 ·rintro ⟨k,hk,rfl⟩
  obtain ⟨h1,h2⟩:=List.mem_filter.1 hk
  simp only [Bool.and_eq_true,decide_eq_true_eq,Bool.not_eq_true'] at h2
  exact ⟨k,rfl,List.mem_range.1 h1,h2⟩
 ·rintro ⟨k,rfl,h1,h2,h3⟩
  refine ⟨k,List.mem_filter.2 ⟨List.mem_range.2 h1,?_⟩,rfl⟩
  rw [h2,h3,decide_eq_true rfl]
  rfl
theorem tC (js:List JobM) (a:Int):(aG js a).Nodup:=by
 unfold aG
 rw [List.Nodup,List.pairwise_map]
 exact (List.Pairwise.filter _ List.nodup_range).imp (fun {x y} h e=>h ab)
theorem Fk {κ α:Type} [DecidableEq κ] {m:List (κ×α)} {k:κ} {a:α} (h:glk m k=some a):(k,a)∈m:=gw h
theorem EV {Y:YardM} {x:YardX} (hF:YardF Y x) (hnd:(x.m.map (·.1)).Nodup) {z:List (Int×SlI)} (hz:z.Perm x.m) (tick:Int):(outI Y.jobs tick z).Nodup∧∀ i,i∈outI Y.jobs tick z↔∃ k:Nat,i=(k:Int)∧k<Y.jobs.length∧dueP Y.jobs tick k:=by
 have hids:∀ p∈z,p.2.ids=aG Y.jobs p.1:=fun p hp=>by
  have h1:glk x.m p.1=some p.2:=dz hnd (show (p.1,p.2)∈x.m from hz.mem_iff.1 hp)
  have h2:=hF.opn p.1
  rw [h1] at h2
  exact h2
 have hzn:(z.map (·.1)).Nodup:=(hz.map _).nodup_iff.2 hnd
 constructor
 ·unfold outI
  rw [List.Nodup,List.pairwise_flatMap]
  constructor
  ·intro p hp
   rw [hids p hp]
   exact List.Pairwise.filter _ (tC _ _)
  ·rw [List.Nodup,List.pairwise_map] at hzn
   refine List.Pairwise.imp_of_mem ?_ hzn
   intro p q hp hq hpq i hi j hj e
   subst e
   have h1:=(List.mem_filter.1 hi).1
   have h2:=(List.mem_filter.1 hj).1
   rw [hids p hp,openIds_mem] at h1
   rw [hids q hq,openIds_mem] at h2
   obtain ⟨k,rfl,_,h3,_⟩:=h1
   obtain ⟨k',e,_,h4,_⟩:=h2
   obtain rfl:k=k':=ab
   exact hpq (h3.symm.trans h4)
 ·intro i
  unfold outI
  rw [List.mem_flatMap]
  constructor
  ·rintro ⟨p,hp,hi⟩
   obtain ⟨h1,h2⟩:=List.mem_filter.1 hi
   rw [hids p hp,openIds_mem] at h1
   obtain ⟨k,rfl,h3,_,h5⟩:=h1
   rw [decide_eq_true_eq,Int.toNat_natCast] at h2
   exact ⟨k,rfl,h3,h5,h2⟩
  ·rintro ⟨k,rfl,h1,h2,h3⟩
   have h4:(k:Int)∈aG Y.jobs Y.jobs[k]!.acc:=openIds_mem.2 ⟨k,rfl,h1,rfl,h2⟩
   have h5:=hF.opn Y.jobs[k]!.acc
   cases h6:glk x.m Y.jobs[k]!.acc with
   | none =>
    rw [h6] at h5
    rw [← h5] at h4
    cases h4
   | some s =>
    rw [h6] at h5
    refine ⟨(Y.jobs[k]!.acc,s),hz.mem_iff.2 (Fk h6),?_⟩
    refine List.mem_filter.2 ⟨?_,?_⟩
    ·show (k:Int)∈s.ids
     have h7:s.ids=aG Y.jobs Y.jobs[k]!.acc:=h5
     rw [h7]
     exact h4
    ·rw [decide_eq_true_eq,Int.toNat_natCast]
     exact h3
theorem vy {n:Nat}:∀ (l:List Int),(∀ i∈l,0≤i∧i<n)→∃ fs:List (Fin n),fs.map (fun f=>(f.val:Int))=l
 | [],_=>⟨[],rfl⟩
 | i::l,h=>by
  obtain ⟨fs,hfs⟩:=vy l (fun j hj=>h j (List.mem_cons_of_mem _ hj))
  have hi:=h i List.mem_cons_self
  refine ⟨⟨i.toNat,ab⟩::fs,?_⟩
  rw [List.map_cons,hfs]
  congr 1
  show ((i.toNat:Nat):Int)=i
  omega
def rt (js:List JobM) (n:Nat) (i j:Fin n):Int:=orI (cmpI js[i.val]!.fin js[j.val]!.fin) (cmpI (i.val:Int) (j.val:Int))
theorem mU (js:List JobM) (n:Nat) (i j:Fin n):rt js n i j<0↔ahead js i.val j.val:=by
 unfold rt orI cmpI ahead
 split<;>split<;>(try split)<;>omega
theorem Df (js:List JobM) (n:Nat):Go.Sort.SWO (ltOf (rt js n)) where
 irrefl x:=by
  simp only [ltOf,decide_eq_false_iff_not]
  rw [mU]
  unfold ahead
  omega
 trans x y z h1 h2:=by
  simp only [ltOf,decide_eq_true_eq] at *
  rw [mU] at *
  unfold ahead at *
  omega
 ntrans x y z h1 h2:=by
  simp only [ltOf,decide_eq_false_iff_not] at *
  rw [mU] at *
  unfold ahead at *
  omega
theorem Bh {js:List JobM} {tick:Int} {fs ys:List (Fin js.length)} {out:List Int} (hfs:fs.map (fun f=>(f.val:Int))=out) (hn:out.Nodup) (hm:∀ i,i∈out↔∃ k:Nat,i=(k:Int)∧k<js.length∧dueP js tick k) (hs:eT (rt js js.length) fs ys):IsDue js tick (ys.map (·.val)):=by
 obtain ⟨hp,hq⟩:=hs
 have hyn:ys.Nodup:=by
  rw [hp.nodup_iff]
  rw [← hfs,List.Nodup,List.pairwise_map] at hn
  exact hn.imp (fun {a b} h e=>h (by rw [e]))
 refine ⟨?_,fun k=>?_⟩
 ·rw [List.pairwise_map]
  refine (List.pairwise_and_iff.2 ⟨hq,hyn⟩).imp (fun {a b} h=>?_)
  obtain ⟨h1,h2⟩:=h
  rw [mU] at h1
  have h3:a.val≠b.val:=fun e=>h2 (Fin.ext e)
  unfold ahead at h1 ⊢
  omega
 ·have h1:=hm (k:Int)
  rw [← hfs] at h1
  constructor
  ·intro h
   obtain ⟨f,hf,rfl⟩:=List.mem_map.1 h
   obtain ⟨k',e,h2,h3⟩:=h1.1 (List.mem_map.2 ⟨f,hp.mem_iff.1 hf,rfl⟩)
   obtain rfl:f.val=k':=ab
   exact ⟨h2,h3⟩
  ·rintro ⟨h2,h3⟩
   obtain ⟨f,hf,e⟩:=List.mem_map.1 (h1.2 ⟨k,rfl,h2,h3⟩)
   exact List.mem_map.2 ⟨f,hp.mem_iff.2 hf,ab⟩
theorem tr {E cap:Nat} {ad:Option Addr} {α:Type} [Inhabited α] {enc:α→Value} (h1:OneCell enc) {xs:List α} {Lc Lf:List HP} {g:Nat} {cb:Array Value} (cf:α→α→Int) (hO:Go.Sort.SWO (ltOf cf)) (heg:V.Enters Tryz.prog g) (hfr:Frz Lc Lf) (hcmp:∀ x y:α,Tri Tryz.prog g (#[enc x,enc y]++cb) Lf (fun u _=>u=.int .i64 (cf x y))) (hsz:xs.length<4611686018427387904) :
  Tri Tryz.prog 65 #[.slice ad xs.length cap,.func (.func g) #[] cb] (osl (fun x=>[enc x]) 1 E ad cap xs::Lc) (fun v L'=>v=.tuple #[]∧∃ ys,eT cf xs ys∧L' = osl (fun x=>[enc x]) 1 E ad cap ys::Lc) :=
 Tri.a8 (ρ:=Tryz.a6) Tryz.a7 { Tryz.a7 with } h1 cf hO en65 heg hfr hcmp hsz
theorem uf {E cap sz:Nat} {ad:Option Addr} {α:Type} {enc:α→List Value} {L:List HP} {fv:Value} :
  Tri Tryz.prog 65 #[.slice ad 0 cap,fv] (osl enc sz E ad cap []::L) (fun v L'=>v=.tuple #[]∧L' = osl enc sz E ad cap []::L) :=
 Tri.c9 (ρ:=Tryz.a6) { Tryz.a7 with } en65
abbrev zY:List Stp:=[.ev 0,.ev 1,.ev 2,.ev 3,.ev 4,.ev 5,.ev 6,.ev 7,.ev 8,.ev 9,.ev 10,.ev 11,.ev 12,.ev 13,.ev 14,.ev 15,.ev 17,.ev 18,.ef 16,.ef 19,.ef 20,.ef 21,.ev 22]
theorem eL {φ ψ:Prop} (k:ψ) (h:Hid ψ→φ:=by intro k;(with_reducible apply G.a7);first|refine G.a6 (N:=28) (id:=1) zY mixed ah (Hid.out k)):φ:=h ⟨k⟩
theorem Dg (yb lb byb:Nat) (Y:YardM) (x:YardX) (hjl:Y.jobs.length≤60) (i j:Nat) (hi:i<Y.jobs.length) (hj:j<Y.jobs.length) :
  Tri Tryz.prog 66 #[.int .i64 (i:Int),.int .i64 (j:Int),.pointer (some ⟨byb,0,none⟩)] [isl encL 1 (some ⟨byb,0,none⟩) [[.pointer (some ⟨yb,0,none⟩)]],isl encL 6 (some ⟨yb,0,none⟩) [ax lb Y x],isl aq 10 x.jad Y.jobs] (fun u _=>u=.int .i64 (orI (cmpI Y.jobs[i]!.fin Y.jobs[j]!.fin) (cmpI (i:Int) (j:Int)))):=by
 have hii:(i:Int).toNat=i:=Int.toNat_natCast i
 have hjj:(j:Int).toNat=j:=Int.toNat_natCast j
 have hi' : (i:Int).toNat<Y.jobs.length:=ab
 have hj' : (j:Int).toNat<Y.jobs.length:=ab
 refine Tri.body (args:=[.int .i64 (i:Int),.int .i64 (j:Int),.pointer (some ⟨byb,0,none⟩)]) 28 en66 Tryz.func66 rfl rfl rfl (by simp) ?_
 repeat first|refine aa ?_|intro _|refine eL ?_
 refine GPW.evL (Ev.e8 (enc:=encL) (sz:=1) (xs:=[[.pointer (some ⟨yb,0,none⟩)]]) (j:=0) (o:=0) rfl rfl (by simp) ac (show _=some (.pointer (some ⟨yb,0,none⟩)) from rfl)) ac ?_
 repeat first|refine aa ?_|intro _|refine eL ?_
 refine GPW.evL (Ev.e8 (enc:=encL) (sz:=6) (xs:=[ax lb Y x]) (j:=0) (o:=3) rfl rfl (by simp) ac (show _=some (.slice x.jad Y.jobs.length x.jcap) from rfl)) ac ?_
 repeat first|refine aa ?_|intro _|refine eL ?_
 refine GPW.evL (Ev.e8 (enc:=encL) (sz:=1) (xs:=[[.pointer (some ⟨yb,0,none⟩)]]) (j:=0) (o:=0) rfl rfl (by simp) ac (show _=some (.pointer (some ⟨yb,0,none⟩)) from rfl)) ac ?_
 repeat first|refine aa ?_|intro _|refine eL ?_
 refine GPW.evL (Ev.e8 (enc:=encL) (sz:=6) (xs:=[ax lb Y x]) (j:=0) (o:=3) rfl rfl (by simp) ac (show _=some (.slice x.jad Y.jobs.length x.jcap) from rfl)) ac ?_
 repeat first|refine aa ?_|intro _|refine eL ?_
 rw [hii,hjj]
 refine GPW.ef (Ef.a6 (ig Y.jobs[i]!.fin Y.jobs[j]!.fin) rfl) ac ?_
 rintro _ _ ⟨rfl,rfl⟩
 repeat first|refine aa ?_|intro _|refine eL ?_
 refine GPW.ef (Ef.a6 (ig (i:Int) (j:Int)) rfl) ac ?_
 rintro _ _ ⟨rfl,rfl⟩
 repeat first|refine aa ?_|intro _|refine eL ?_
 rename_i b2
 refine GPW.ent (Ent.c6 (enc:=encZ .i64) (sz:=1) (xs:=[cmpI Y.jobs[i]!.fin Y.jobs[j]!.fin,cmpI (i:Int) (j:Int)]) rfl rfl (fun _ _=>rfl) (by simp)) ?_
 refine GPW.ef (Ef.a6 (mw (some ⟨b2,0,none⟩) 2 (cmpI Y.jobs[i]!.fin Y.jobs[j]!.fin) (cmpI (i:Int) (j:Int))) rfl) ac ?_
 rintro _ _ ⟨rfl,rfl⟩
 repeat first|refine aa ?_|intro _|refine eL ?_
 exact KX.a6 ai (Ent.refl _) rfl
end
section
theorem vC (js:List JobM) (tick:Int) (l:List Int):endI js tick (l.take 0)=[]:=by
 rw [List.take_zero]
 rfl
theorem uS {js:List JobM} {tick:Int}:∀ {z:List (Int×SlI)},(∀ p∈z,p.2.ids.length≤60)→(outI js tick z).length≤60*z.length
 | [],_=>Nat.zero_le _
 | p::z,h=>by
  have ih:=uS (js:=js) (tick:=tick) (z:=z) (fun q hq=>h q (List.mem_cons_of_mem _ hq))
  have h1:=h p List.mem_cons_self
  have h2:=List.length_filter_le (fun i:Int=>decide (js[i.toNat]!.fin≤tick)) p.2.ids
  unfold outI at ih ⊢
  rw [List.flatMap_cons,List.length_append,List.length_cons]
  unfold endI at ih ⊢
  omega
attribute [local irreducible] tryM aI cL da gbM endJ endM advS
abbrev xg:List Stp:=[.ev 0,.ev 1,.ev 2,.ev 3,.ev 4,.ev 5,.ev 6,.ef 7]
theorem ca {φ ψ:Prop} (k:ψ) (h:Hid ψ→φ:=by intro k;(with_reducible apply G.a7);first|refine G.a6 (N:=72) (id:=18) xg mixed ah (Hid.out k)):φ:=h ⟨k⟩
theorem vT {L:List HP} (yb lb:Nat) (Y:YardM) (hY:Y.Ok) (S:LedM) (hS:S.Ok) (hg:CatGood S.cat) (hc:S.cat.Ok) (hR:RulesJ S Y.jobs) (tick:Int) :
  Tri Tryz.prog 26 #[.pointer (some ⟨yb,0,none⟩),.int .i64 tick] (bz yb lb Y::LedR lb S::L) (fun v L'=>∃ ad cap,v=.slice ad (advM S Y tick).1.length cap∧L' = osl (encZ .i64) 1 tInt ad cap (advM S Y tick).1::bz yb lb (advM S Y tick).2.2::LedR lb (advM S Y tick).2.1::L):=by
 have hjl:=hY.len
 refine Tri.body (args:=[.pointer (some ⟨yb,0,none⟩),.int .i64 tick]) 72 en26 Tryz.func26 rfl rfl rfl (by simp) ?_
 refine G.c6 (f:=ew yb lb Y) ?_
 intro x
 simp only [ew,co,List.cons_append,List.nil_append]
 refine G.c8 ?_
 intro hF
 have hyc:=dq (yb:=yb) (lb:=lb) (Y:=Y) (L:=LedR lb S::L) x hF
 simp only [co] at hyc
 repeat first|refine aa ?_|intro _|refine ca ?_
 rename_i byb
 refine GO.ent (L':=LedR lb S::obj yb bu (ax lb Y x)::obj byb eb [.pointer (some ⟨yb,0,none⟩)]::isl (encZ .u8) 1 x.sad Y.seed::osl aq 10 tJob x.jad x.jcap Y.jobs::gmap kvI SlI.v x.om x.m::bigO idsP x.m::L) ae ?_
 refine GO.ef (Ef.a6 (fG yb lb Y x S hS tick) rfl) ac ?_
 rintro _ _ ⟨rfl,rfl⟩
 by_cases h1:aV Y.tick S.now tick
 case neg =>
  rw [eA h1,an h1]
  repeat first|refine aa ?_|intro _|refine ca ?_
  refine KX.a6 ai ?_ ⟨none,0,rfl,rfl⟩
  exact Ent.trans (Ent.trans ae hyc) (Ent.a7 (encZ .i64) 1 tInt)
 rw [aw h1]
 clear hyc
 have htk:0≤tick∧tick≤1099511627776:=by have:=hY.tick;unfold aV at h1;omega
 refine GO.c9 (fH (b:=x.om)) ?_
 intro hnd
 have hidm:∀ p∈x.m,p.2.ids=aG Y.jobs p.1:=fun p hp=>by
  have h1:glk x.m p.1=some p.2:=dz hnd (show (p.1,p.2)∈x.m from hp)
  have h2:=hF.opn p.1
  rw [h1] at h2
  exact h2
 have hidl:∀ a,(aG Y.jobs a).length≤60:=fun a=>by
  unfold aG
  rw [List.length_map]
  have:=List.length_filter_le (fun k=>decide (Y.jobs[k]!.acc=a) && !Y.jobs[k]!.done) (List.range Y.jobs.length)
  rw [List.length_range] at this
  omega
 have hml:x.m.length≤60:=by
  have h2:=iF (n:=Y.jobs.length) (js:=x.m.map (fun p=>p.2.ids[0]!.toNat)) ?_ ?_
  ·rw [List.length_map] at h2
   omega
  ·rw [List.Nodup,List.pairwise_map] at hnd ⊢
   refine List.Pairwise.imp_of_mem ?_ hnd
   intro p q hp hq hpq e
   have hl1:0<p.2.ids.length:=List.length_pos_iff.2 (hF.full p hp)
   have hl2:0<q.2.ids.length:=List.length_pos_iff.2 (hF.full q hq)
   have h3:p.2.ids[0]!∈aG Y.jobs p.1:=by rw [← hidm p hp];exact ap hl1
   have h4:q.2.ids[0]!∈aG Y.jobs q.1:=by rw [← hidm q hq];exact ap hl2
   rw [openIds_mem] at h3 h4
   obtain ⟨k,e1,_,h5,_⟩:=h3
   obtain ⟨k',e2,_,h6,_⟩:=h4
   obtain rfl:k=k':=ab
   exact hpq (h5.symm.trans h6)
  ·intro j hj
   obtain ⟨p,hp,rfl⟩:=List.mem_map.1 hj
   have hl1:0<p.2.ids.length:=List.length_pos_iff.2 (hF.full p hp)
   have h3:p.2.ids[0]!∈aG Y.jobs p.1:=by rw [← hidm p hp];exact ap hl1
   have:=fE h3
   omega
 repeat first|refine aa ?_|intro _|refine ca ?_
 refine GO.ef (Ef.g7 rfl) ac ?_
 rintro _ _ ⟨r,rfl,rfl⟩
 repeat first|refine aa ?_|intro _|refine ca ?_
 refine G.loop (α:=List (Int×SlI)×Option Addr×Nat) (fun g=>g.1.length≤x.m.length) (fun g=>[(1,.int .i64 tick),(2,.pointer (some ⟨byb,0,none⟩)),(5,.slice g.2.1 (outI Y.jobs tick g.1).length g.2.2),(27,.pointer (some ⟨r,0,none⟩))]) (fun g=>dd kvI SlI.v x.om x.m r g.1::osl (encZ .i64) 1 tInt g.2.1 g.2.2 (outI Y.jobs tick g.1)::LedR lb S::obj yb bu (ax lb { Y with tick:=tick } x)::obj byb eb [.pointer (some ⟨yb,0,none⟩)]::isl (encZ .u8) 1 x.sad Y.seed::osl aq 10 tJob x.jad x.jcap Y.jobs::bigO idsP x.m::L) (fun g=>x.m.length - g.1.length) ([],none,0) (Nat.zero_le _) aj ((Ent.a7 (encZ .i64) 1 tInt).trans (by show Ent _ (_::osl (encZ .i64) 1 tInt none 0 []::_);exact ae)) ?_
 rintro ⟨z,ad,cap⟩ hz
 dsimp only at hz ⊢
 refine G.c9 (vj (r:=r)) ?_
 rintro ⟨_,hzm,_⟩
 have hol:(outI Y.jobs tick z).length≤60*z.length:=uS (fun p hp=>by rw [hidm p (hzm p hp)];exact hidl p.1)
 repeat first|refine aa ?_|intro _|refine ca ?_
 refine GO.ef (Ef.j0 rfl) ac ?_
 rintro _ _ (⟨rfl,rfl,hp⟩|⟨p,rfl,rfl,hpm,hpn,hl⟩)
 case inr =>
  obtain ⟨rm,hrm⟩:=vd hpm
  have hpi:=hidm p hpm
  have hpl:p.2.ids.length≤60:=by rw [hpi];exact hidl p.1
  repeat first|refine aa ?_|intro _|refine ca ?_
  refine GO.ev (Ev.g9 (done:=z) rfl rfl) ac ?_
  simp only [SlI.v]
  repeat first|refine aa ?_|intro _|refine ca ?_
  refine G.ent (L':=osl (encZ .i64) 1 tInt p.2.ad p.2.cap p.2.ids::bigO idsP rm::dd kvI SlI.v x.om x.m r (z++[p])::osl (encZ .i64) 1 tInt ad cap (outI Y.jobs tick z)::LedR lb S::obj yb bu (ax lb { Y with tick:=tick } x)::obj byb eb [.pointer (some ⟨yb,0,none⟩)]::isl (encZ .u8) 1 x.sad Y.seed::osl aq 10 tJob x.jad x.jcap Y.jobs::L) (Ent.at (A:=bigO idsP x.m) ((Ent.f8 hrm).trans (Ent.bigO_uncons.trans ae))) ?_
  refine G.loop (α:=Nat×Option Addr×Nat) (fun c=>c.1≤p.2.ids.length) (fun c=>[(1,.int .i64 tick),(2,.pointer (some ⟨byb,0,none⟩)),(27,.pointer (some ⟨r,0,none⟩)),(5,.slice c.2.1 (outI Y.jobs tick z++endI Y.jobs tick (p.2.ids.take c.1)).length c.2.2),(32,.slice p.2.ad p.2.ids.length p.2.cap),(33,.int .i64 (p.2.ids.length:Int)),(34,.int .i64 (c.1:Int))]) (fun c=>osl (encZ .i64) 1 tInt c.2.1 c.2.2 (outI Y.jobs tick z++endI Y.jobs tick (p.2.ids.take c.1))::osl (encZ .i64) 1 tInt p.2.ad p.2.cap p.2.ids::bigO idsP rm::dd kvI SlI.v x.om x.m r (z++[p])::LedR lb S::obj yb bu (ax lb { Y with tick:=tick } x)::obj byb eb [.pointer (some ⟨yb,0,none⟩)]::isl (encZ .u8) 1 x.sad Y.seed::osl aq 10 tJob x.jad x.jcap Y.jobs::L) (fun c=>p.2.ids.length - c.1) (0,ad,cap) (Nat.zero_le _) (by rw [vC,List.append_nil];exact aj) (by rw [vC,List.append_nil];exact ae) ?_
  rintro ⟨c,ad2,cap2⟩ hcl
  dsimp only at hcl ⊢
  simp only [ax]
  by_cases hlt:c<p.2.ids.length
  case neg =>
   obtain rfl:c=p.2.ids.length:=ab
   rw [List.take_length]
   repeat first|refine aa ?_|intro _|refine ca ?_
   refine ⟨(z++[p],ad2,cap2),by dsimp only;rw [List.length_append];simp;omega,by dsimp only;rw [List.length_append];simp;omega,?_,?_⟩
   ·dsimp only
    rw [sA]
    exact aj
   ·dsimp only
    rw [sA]
    refine Ent.trans (B:=osl (encZ .i64) 1 tInt p.2.ad p.2.cap p.2.ids::bigO idsP rm::dd kvI SlI.v x.om x.m r (z++[p])::osl (encZ .i64) 1 tInt ad2 cap2 (outI Y.jobs tick z++endI Y.jobs tick p.2.ids)::LedR lb S::obj yb bu (ax lb { Y with tick:=tick } x)::obj byb eb [.pointer (some ⟨yb,0,none⟩)]::isl (encZ .u8) 1 x.sad Y.seed::osl aq 10 tJob x.jad x.jcap Y.jobs::L) ae ?_
    have h1:Ent (idsP p::bigO idsP rm::(dd kvI SlI.v x.om x.m r (z++[p])::osl (encZ .i64) 1 tInt ad2 cap2 (outI Y.jobs tick z++endI Y.jobs tick p.2.ids)::LedR lb S::obj yb bu (ax lb { Y with tick:=tick } x)::obj byb eb [.pointer (some ⟨yb,0,none⟩)]::isl (encZ .u8) 1 x.sad Y.seed::osl aq 10 tJob x.jad x.jcap Y.jobs::L)) (bigO idsP (p::rm)::_):=Ent.bigO_cons
    refine h1.trans ((Ent.f8 hrm.symm).trans ?_)
    exact ae
  have hii:(c:Int).toNat=c:=Int.toNat_natCast c
  have hlt' : (c:Int).toNat<p.2.ids.length:=ab
  have hib:0≤p.2.ids[(c:Int).toNat]!∧p.2.ids[(c:Int).toNat]! < Y.jobs.length:=by
   have h3:p.2.ids[(c:Int).toNat]!∈aG Y.jobs p.1:=by rw [← hpi];exact ap hlt'
   exact fE h3
  have hel:(endI Y.jobs tick (p.2.ids.take c)).length≤60:=by
   have h3:=List.length_filter_le (fun i:Int=>decide (Y.jobs[i.toNat]!.fin≤tick)) (p.2.ids.take c)
   rw [List.length_take] at h3
   unfold endI
   omega
  have hal:(outI Y.jobs tick z++endI Y.jobs tick (p.2.ids.take c)).length≤7200:=by rw [List.length_append];omega
  have htc:p.2.ids.take (c+1)=p.2.ids.take c++[p.2.ids[(c:Int).toNat]!]:=by rw [hii,List.take_succ_eq_append_getElem hlt,getElem!_of hlt]
  by_cases hf:Y.jobs[p.2.ids[(c:Int).toNat]!.toNat]!.fin≤tick
  ·repeat first|refine aa ?_|intro _|refine ca ?_
   refine GO.ef (Ef.a7 (enc:=encZ .i64) (e:=p.2.ids[(c:Int).toNat]!) rfl rfl rfl rfl rfl (by rfl) (eS _ _) ab ab) ac ?_
   rintro _ _ ⟨ad3,cap3,rfl,rfl⟩
   repeat first|refine aa ?_|intro _|refine ca ?_
   refine ⟨(c+1,ad3,cap3),by dsimp only;omega,by dsimp only;omega,?_,?_⟩
   ·dsimp only
    rw [htc,yP hf,← List.append_assoc,show ((c+1:Nat):Int)=(c:Int)+1 by omega]
    exact aj
   ·dsimp only
    rw [htc,yP hf,← List.append_assoc]
    exact ae
  ·repeat first|refine aa ?_|intro _|refine ca ?_
   refine ⟨(c+1,ad2,cap2),by dsimp only;omega,by dsimp only;omega,?_,?_⟩
   ·dsimp only
    rw [htc,vB hf,show ((c+1:Nat):Int)=(c:Int)+1 by omega]
    exact aj
   ·dsimp only
    rw [htc,vB hf]
    exact ae
 obtain ⟨hon,hom⟩:=EV hF hnd hp tick
 obtain ⟨out,hout⟩:∃ out,outI Y.jobs tick z=out:=⟨_,rfl⟩
 rw [hout] at hon hom hol
 rw [hout]
 have hob:∀ i∈out,0≤i∧i<Y.jobs.length:=fun i hi=>by
  obtain ⟨k,rfl,h2,_⟩:=(hom i).1 hi
  omega
 repeat first|((fail_if_success (with_reducible refine G.atS 14 ?_));(with_reducible apply G.seq))|refine aL ?_|intro _|refine ca ?_
 refine G.a8 (α:=List Nat) (fun ids=>IsDue Y.jobs tick ids∧ids.length=out.length) (fun _=>[(1,.int .i64 tick),(2,.pointer (some ⟨byb,0,none⟩)),(5,.slice ad out.length cap)]) (fun ids=>osl (encZ .i64) 1 tInt ad cap (ids.map (fun k:Nat=>(k:Int)))::LedR lb S::obj yb bu (ax lb { Y with tick:=tick } x)::obj byb eb [.pointer (some ⟨yb,0,none⟩)]::isl (encZ .u8) 1 x.sad Y.seed::osl aq 10 tJob x.jad x.jcap Y.jobs::gmap kvI SlI.v x.om x.m::bigO idsP x.m::L) ?_ ?_
 ·by_cases h0:out=[]
  ·rw [h0]
   repeat first|refine aa ?_|intro _|refine ca ?_
   refine GO.ent (L':=osl (encZ .i64) 1 tInt ad cap []::dd kvI SlI.v x.om x.m r z::LedR lb S::obj yb bu (ax lb { Y with tick:=tick } x)::obj byb eb [.pointer (some ⟨yb,0,none⟩)]::isl (encZ .u8) 1 x.sad Y.seed::osl aq 10 tJob x.jad x.jcap Y.jobs::bigO idsP x.m::L) ae ?_
   refine GO.ef (Ef.a6 (uf (enc:=encZ .i64) (sz:=1) (E:=tInt) (ad:=ad) (cap:=cap)) rfl) ac ?_
   rintro _ _ ⟨rfl,rfl⟩
   repeat first|refine aa ?_|intro _|refine ca ?_
   refine ⟨[],⟨⟨List.Pairwise.nil,fun k=>⟨fun h=>(by cases h),fun h=>?_⟩⟩,rfl⟩,aj,?_⟩
   ·have h5:=(hom (k:Int)).2 ⟨k,rfl,h.1,h.2⟩
    rw [h0] at h5
    cases h5
   ·refine (Ent.at (A:=dd kvI SlI.v x.om x.m r z) Ent.itEnd).trans ?_
    show Ent _ (osl (encZ .i64) 1 tInt ad cap []::_)
    exact ae
  have hn0:0<Y.jobs.length:=by
   obtain ⟨i,hi⟩:=List.exists_mem_of_ne_nil _ h0
   have:=hob i hi
   omega
  haveI:Inhabited (Fin Y.jobs.length):=⟨⟨0,hn0⟩⟩
  obtain ⟨fs,hfs⟩:=vy out hob
  have hsl:out.length=fs.length:=by rw [← hfs,List.length_map]
  have hjlen:Y.jobs.length≤60:=hjl
  have hfl:=iF (n:=Y.jobs.length) (js:=out.map Int.toNat) (by
   rw [List.Nodup,List.pairwise_map]
   exact List.Pairwise.imp_of_mem (fun {a b} ha hb h e=>h (by have:=hob a ha;have:=hob b hb;omega)) hon) (fun j hj=>by
   obtain ⟨i,hi,rfl⟩:=List.mem_map.1 hj
   have:=hob i hi
   omega)
  rw [List.length_map] at hfl
  rw [hsl]
  repeat first|refine aa ?_|intro _|refine ca ?_
  refine GO.ent (L':=osl (fun f:Fin Y.jobs.length=>[Value.int .i64 (f.val:Int)]) 1 tInt ad cap fs::obj byb eb [.pointer (some ⟨yb,0,none⟩)]::obj yb bu (ax lb { Y with tick:=tick } x)::osl aq 10 tJob x.jad x.jcap Y.jobs::dd kvI SlI.v x.om x.m r z::LedR lb S::isl (encZ .u8) 1 x.sad Y.seed::bigO idsP x.m::L) ?_ ?_
  ·refine Ent.trans (B:=osl (encZ .i64) 1 tInt ad cap (fs.map (fun f=>(f.val:Int)))::obj byb eb [.pointer (some ⟨yb,0,none⟩)]::obj yb bu (ax lb { Y with tick:=tick } x)::osl aq 10 tJob x.jad x.jcap Y.jobs::dd kvI SlI.v x.om x.m r z::LedR lb S::isl (encZ .u8) 1 x.sad Y.seed::bigO idsP x.m::L) ?_ Ent.g9
   rw [hfs]
   exact ae
  have hsort:=tr (E:=tInt) (cap:=cap) (ad:=ad) (enc:=fun f:Fin Y.jobs.length=>Value.int .i64 (f.val:Int)) (by intro f;rfl) (xs:=fs) (Lc:=[obj byb eb [.pointer (some ⟨yb,0,none⟩)],obj yb bu (ax lb { Y with tick:=tick } x),osl aq 10 tJob x.jad x.jcap Y.jobs]) (g:=66) (cb:=#[.pointer (some ⟨byb,0,none⟩)]) (rt Y.jobs Y.jobs.length) (Df _ _) en66 (Frz.obj (n:=1) rfl (Frz.obj (n:=6) rfl (Frz.osl Frz.nil))) (fun i j=>Dg yb lb byb { Y with tick:=tick } x hjl i.val j.val i.isLt j.isLt) ab
  (first|refine GO.ef (Ef.call (hsort) rfl (by repeat (first|exact Ent.refl _|apply Ent.take))) ac ?_)
  rintro _ _ ⟨_,⟨rfl,ys,hys,rfl⟩,hL⟩
  simp only [List.cons_append,List.nil_append] at hL;subst hL
  repeat first|refine aa ?_|intro _|refine ca ?_
  have hyl:(ys.map (·.val)).length=fs.length:=by rw [List.length_map];exact hys.1.length_eq
  refine ⟨ys.map (·.val),⟨Bh hfs hon hom hys,hyl⟩,aj,?_⟩
  refine (Ent.at (A:=dd kvI SlI.v x.om x.m r z) Ent.itEnd).trans ?_
  have hmm:(ys.map (·.val)).map (fun k:Nat=>(k:Int))=ys.map (fun f=>(f.val:Int)):=by rw [List.map_map];rfl
  rw [hmm]
  refine Ent.trans (B:=osl (fun f:Fin Y.jobs.length=>[Value.int .i64 (f.val:Int)]) 1 tInt ad cap ys::LedR lb S::obj yb bu (ax lb { Y with tick:=tick } x)::obj byb eb [.pointer (some ⟨yb,0,none⟩)]::isl (encZ .u8) 1 x.sad Y.seed::osl aq 10 tJob x.jad x.jcap Y.jobs::gmap kvI SlI.v x.om x.m::bigO idsP x.m::L) ae ?_
  exact Ent.g8 (f:=fun f:Fin Y.jobs.length=>(f.val:Int)) (enc:=encZ .i64)
 rintro ids ⟨hids,hidn⟩
 rw [ga h1 hids]
 have hinv:=iy hS hY hR htk hids
 obtain ⟨en,hen⟩:∃ en,ids.map (fun k:Nat=>(k:Int))=en:=⟨_,rfl⟩
 have henl:en.length=ids.length:=by rw [← hen,List.length_map]
 have heng:∀ g,g<ids.length→en[g]! = (ids[g]! : Int):=fun g hg=>by rw [← hen];exact ek (fun k:Nat=>(k:Int)) hg
 rw [hen]
 have hoe:out.length=en.length:=ab
 rw [hoe]
 repeat first|refine aa ?_|intro _|refine ca ?_
 refine G.loop (α:=Nat×List (Int×SlI)) (fun g=>g.1≤ids.length∧YardF (advS S Y tick ids g.1).2 { x with m:=g.2 }) (fun g=>[(2,.pointer (some ⟨byb,0,none⟩)),(5,.slice ad en.length cap),(56,.slice ad en.length cap),(57,.int .i64 (en.length:Int)),(58,.int .i64 (g.1:Int))]) (fun g=>LedR lb (advS S Y tick ids g.1).1::co yb lb (advS S Y tick ids g.1).2 { x with m:=g.2 } (osl (encZ .i64) 1 tInt ad cap en::obj byb eb [.pointer (some ⟨yb,0,none⟩)]::L)) (fun g=>ids.length - g.1) (0,x.m) ⟨Nat.zero_le _,by rw [lf];exact sW hF⟩ aj ?_ ?_
 ·rw [lf]
  simp only [co]
  exact ae
 rintro ⟨g,mm⟩ ⟨hg1,hFg⟩
 dsimp only at hg1 hFg ⊢
 have hI:=hinv g
 have hsuc:=fun h=>ol (S:=S) (Y:=Y) (tick:=tick) (ids:=ids) (g:=g) h
 obtain ⟨p2,hp2⟩:∃ p2,advS S Y tick ids g=p2:=⟨_,rfl⟩
 rw [hp2] at hI hsuc hFg ⊢
 obtain ⟨S',Y'⟩:=p2
 obtain ⟨i1,i2,i3,i4,i5,i6,i7,i8,i9⟩:=hI
 dsimp only at i1 i2 i3 i4 i5 i6 i7 i8 i9 hsuc hFg ⊢
 have hjl':=i3.len
 by_cases hgl:g<ids.length
 case neg =>
  obtain rfl:g=ids.length:=ab
  rw [hp2]
  dsimp only
  repeat first|refine aa ?_|intro _|refine ca ?_
  refine KX.a6 ai ?_ ⟨ad,cap,rfl,rfl⟩
  refine Ent.trans (B:=co yb lb Y' { x with m:=mm } (osl (encZ .i64) 1 tInt ad cap en::LedR lb S'::L)) (by simp only [co];exact ae) ?_
  refine (dq (yb:=yb) (lb:=lb) (Y:=Y') { x with m:=mm } hFg).trans ?_
  exact ae
 have hdr:ids.drop g=ids[g]!::ids.drop (g+1):=kg hgl
 rw [hdr] at i9
 obtain ⟨_,hkl,_⟩:=i9.head
 have hek:=heng g hgl
 have hii:(g:Int).toNat=g:=Int.toNat_natCast g
 have hlt' : (g:Int).toNat<en.length:=ab
 have hek' : en[(g:Int).toNat]! = (ids[g]! : Int):=by rw [hii];exact hek
 have hib:0≤en[(g:Int).toNat]!∧en[(g:Int).toNat]! < Y'.jobs.length:=ab
 have hkn:en[(g:Int).toNat]!.toNat=ids[g]!:=ab
 simp only [co,ax]
 repeat first|refine aa ?_|intro _|refine ca ?_
 refine GPW.ent (L':=LedR lb S'::co yb lb Y' { x with m:=mm } (osl (encZ .i64) 1 tInt ad cap en::obj byb eb [.pointer (some ⟨yb,0,none⟩)]::L)) (by simp only [co,ax];exact ae) ?_
 refine GPW.ef (Ef.a6 (DX yb lb Y' i3 { x with m:=mm } hFg S' i1 (by rw [i2];exact hg) (by rw [i2];exact hc) en[(g:Int).toNat]!.toNat ab (by rw [hkn,i2];exact i8 _ hkl)) rfl) ac ?_
 rintro _ _ ⟨m',hF',rfl⟩
 rw [hkn,i6,← hsuc hgl] at hF' ⊢
 repeat first|refine aa ?_|intro _|refine ca ?_
 refine ⟨(g+1,m'),⟨by dsimp only;omega,hF'⟩,by dsimp only;omega,?_,?_⟩
 ·dsimp only
  rw [show ((g+1:Nat):Int)=(g:Int)+1 by omega]
  exact aj
 ·dsimp only
  exact Ent.refl _
end
end Go.Proofs.YtfmgkkofledkbaaGreatDoor
