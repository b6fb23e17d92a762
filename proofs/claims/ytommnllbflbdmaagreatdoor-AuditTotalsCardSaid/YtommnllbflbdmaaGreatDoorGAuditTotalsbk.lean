/- Lemmas and contracts of functions. -/
import Derived.Test.YtommnllbflbdmaaGreatDoorGAuditTotalsbj
import Derived.Test.YtommnllbflbdmaaGreatDoorGAuditTotalsaf
set_option linter.all false
set_option maxHeartbeats 4000000
namespace Go.Proofs.YtommnllbflbdmaaGreatDoor
open Go.V
attribute [local irreducible] G GO GP GPW GPK Ev Ef EfR Ent CB GB V.Enters
def eC (k:Int) (m:MvM):Prop :=
 if k=0 then m.frm=0∧m.parts.length=0 else if k=1∨k=6 then m.to=0∧m.parts.length=0 else if k=2∨k=3∨k=8 then m.frm≠0∧m.to≠0∧m.parts.length=0
 else if k=5 then m.frm=0∧fO m.parts m.n else if k=7 then m.frm≠0∧fO m.parts m.n else if k=9 then m.to≠0∧fO m.parts m.n else m.parts.length=0
instance (k:Int) (m:MvM):Decidable (eC k m):=by unfold eC;infer_instance
theorem fx {p q:Prop} [Decidable p] [Decidable q] (h:p↔q):dB p=dB q:=by
 by_cases c:p
 ·rw [aL c,aL (h.1 c)]
 ·rw [aC c,aC (fun x=>c (h.2 x))]
abbrev xM:List Stp:=[.ev 0,.ev 1,.ev 2,.ev 3,.ev 4,.ev 5,.ev 6,.ev 7]
theorem bP {φ ψ:Prop} (k:ψ) (h:Hid ψ→φ:=by intro k;(with_reducible apply G.d8);first|refine G.d7 (N:=85) (id:=1) xM mixed an (Hid.out k)):φ:=h ⟨k⟩
theorem AX {L:List HP} (k:Int) (m:MvV) [hr:Rds L m.pad Lot ah 3 m.m.parts] (hm:m.m.parts.length≤9223372036854775807):Tri Tryz.prog 148 #[.int .i64 k,.agg (aF m).toArray] L (fun v L'=>v=.bool (dB (eC k m.m))∧L' = L):=by
 obtain ⟨⟨frm,to,item,mn,parts⟩,pad,pcap⟩:=m
 dsimp only at hr hm ⊢
 refine Tri.body (args:=[.int .i64 k,.agg (aF ⟨⟨frm,to,item,mn,parts⟩,pad,pcap⟩).toArray]) 85 Ie Tryz.func148 rfl rfl rfl (by simp) ?_
 simp only [aF]
 have hlen:((parts.length:Int)=0)↔parts.length=0:=ab
 by_cases k0:k=0
 ·subst k0
  have e:eC 0 ⟨frm,to,item,mn,parts⟩↔frm=0∧parts.length=0:=Iff.rfl
  by_cases c1:frm=0
  ·repeat first|refine aa ?_|intro _|refine bP ?_
   exact KX.d7 ag ae ⟨by rw [fx (e.trans ⟨fun q=>q.2,fun q=>⟨c1,q⟩⟩),← fx hlen];rfl,rfl⟩
  ·skip
   repeat first|refine aa ?_|intro _|refine bP ?_
   exact KX.d7 ag ae ⟨by rw [aC (show ¬eC _ ⟨frm,to,item,mn,parts⟩ from fun q=>c1 (e.1 q).1)];rfl,rfl⟩
 by_cases k1:k=1
 ·subst k1
  have e:eC 1 ⟨frm,to,item,mn,parts⟩↔to=0∧parts.length=0:=Iff.rfl
  by_cases c1:to=0
  ·repeat first|refine aa ?_|intro _|refine bP ?_
   exact KX.d7 ag ae ⟨by rw [fx (e.trans ⟨fun q=>q.2,fun q=>⟨c1,q⟩⟩),← fx hlen];rfl,rfl⟩
  ·skip
   repeat first|refine aa ?_|intro _|refine bP ?_
   exact KX.d7 ag ae ⟨by rw [aC (show ¬eC _ ⟨frm,to,item,mn,parts⟩ from fun q=>c1 (e.1 q).1)];rfl,rfl⟩
 by_cases k6:k=6
 ·subst k6
  have e:eC 6 ⟨frm,to,item,mn,parts⟩↔to=0∧parts.length=0:=Iff.rfl
  by_cases c1:to=0
  ·repeat first|refine aa ?_|intro _|refine bP ?_
   exact KX.d7 ag ae ⟨by rw [fx (e.trans ⟨fun q=>q.2,fun q=>⟨c1,q⟩⟩),← fx hlen];rfl,rfl⟩
  ·skip
   repeat first|refine aa ?_|intro _|refine bP ?_
   exact KX.d7 ag ae ⟨by rw [aC (show ¬eC _ ⟨frm,to,item,mn,parts⟩ from fun q=>c1 (e.1 q).1)];rfl,rfl⟩
 by_cases k2:k=2
 ·subst k2
  have e:eC 2 ⟨frm,to,item,mn,parts⟩↔frm≠0∧to≠0∧parts.length=0:=Iff.rfl
  by_cases c1:frm=0
  ·skip
   repeat first|refine aa ?_|intro _|refine bP ?_
   exact KX.d7 ag ae ⟨by rw [aC (show ¬eC _ ⟨frm,to,item,mn,parts⟩ from fun q=>(e.1 q).1 c1)];rfl,rfl⟩
  by_cases c2:to=0
  ·skip
   repeat first|refine aa ?_|intro _|refine bP ?_
   exact KX.d7 ag ae ⟨by rw [aC (show ¬eC _ ⟨frm,to,item,mn,parts⟩ from fun q=>(e.1 q).2.1 c2)];rfl,rfl⟩
  repeat first|refine aa ?_|intro _|refine bP ?_
  exact KX.d7 ag ae ⟨by rw [fx (e.trans ⟨fun q=>q.2.2,fun q=>⟨c1,c2,q⟩⟩),← fx hlen];rfl,rfl⟩
 by_cases k3:k=3
 ·subst k3
  have e:eC 3 ⟨frm,to,item,mn,parts⟩↔frm≠0∧to≠0∧parts.length=0:=Iff.rfl
  by_cases c1:frm=0
  ·skip
   repeat first|refine aa ?_|intro _|refine bP ?_
   exact KX.d7 ag ae ⟨by rw [aC (show ¬eC _ ⟨frm,to,item,mn,parts⟩ from fun q=>(e.1 q).1 c1)];rfl,rfl⟩
  by_cases c2:to=0
  ·skip
   repeat first|refine aa ?_|intro _|refine bP ?_
   exact KX.d7 ag ae ⟨by rw [aC (show ¬eC _ ⟨frm,to,item,mn,parts⟩ from fun q=>(e.1 q).2.1 c2)];rfl,rfl⟩
  repeat first|refine aa ?_|intro _|refine bP ?_
  exact KX.d7 ag ae ⟨by rw [fx (e.trans ⟨fun q=>q.2.2,fun q=>⟨c1,c2,q⟩⟩),← fx hlen];rfl,rfl⟩
 by_cases k8:k=8
 ·subst k8
  have e:eC 8 ⟨frm,to,item,mn,parts⟩↔frm≠0∧to≠0∧parts.length=0:=Iff.rfl
  by_cases c1:frm=0
  ·skip
   repeat first|refine aa ?_|intro _|refine bP ?_
   exact KX.d7 ag ae ⟨by rw [aC (show ¬eC _ ⟨frm,to,item,mn,parts⟩ from fun q=>(e.1 q).1 c1)];rfl,rfl⟩
  by_cases c2:to=0
  ·skip
   repeat first|refine aa ?_|intro _|refine bP ?_
   exact KX.d7 ag ae ⟨by rw [aC (show ¬eC _ ⟨frm,to,item,mn,parts⟩ from fun q=>(e.1 q).2.1 c2)];rfl,rfl⟩
  repeat first|refine aa ?_|intro _|refine bP ?_
  exact KX.d7 ag ae ⟨by rw [fx (e.trans ⟨fun q=>q.2.2,fun q=>⟨c1,c2,q⟩⟩),← fx hlen];rfl,rfl⟩
 by_cases k5:k=5
 ·subst k5
  have e:eC 5 ⟨frm,to,item,mn,parts⟩↔frm=0∧fO parts mn:=Iff.rfl
  by_cases c1:frm=0
  ·skip
   repeat first|refine aa ?_|intro _|refine bP ?_
   refine GO.ef (Ef.d7 (jI pad parts.length pcap parts mn rfl hm) rfl) ac ?_
   rintro _ _ ⟨rfl,rfl⟩
   repeat first|refine aa ?_|intro _|refine bP ?_
   exact KX.d7 ag ae ⟨by rw [fx (e.trans ⟨fun q=>q.2,fun q=>⟨c1,q⟩⟩)];rfl,rfl⟩
  ·skip
   repeat first|refine aa ?_|intro _|refine bP ?_
   exact KX.d7 ag ae ⟨by rw [aC (show ¬eC _ ⟨frm,to,item,mn,parts⟩ from fun q=>c1 (e.1 q).1)];rfl,rfl⟩
 by_cases k7:k=7
 ·subst k7
  have e:eC 7 ⟨frm,to,item,mn,parts⟩↔frm≠0∧fO parts mn:=Iff.rfl
  by_cases c1:frm=0
  ·skip
   repeat first|refine aa ?_|intro _|refine bP ?_
   exact KX.d7 ag ae ⟨by rw [aC (show ¬eC _ ⟨frm,to,item,mn,parts⟩ from fun q=>(e.1 q).1 c1)];rfl,rfl⟩
  ·skip
   repeat first|refine aa ?_|intro _|refine bP ?_
   refine GO.ef (Ef.d7 (jI pad parts.length pcap parts mn rfl hm) rfl) ac ?_
   rintro _ _ ⟨rfl,rfl⟩
   repeat first|refine aa ?_|intro _|refine bP ?_
   exact KX.d7 ag ae ⟨by rw [fx (e.trans ⟨fun q=>q.2,fun q=>⟨c1,q⟩⟩)];rfl,rfl⟩
 by_cases k9:k=9
 ·subst k9
  have e:eC 9 ⟨frm,to,item,mn,parts⟩↔to≠0∧fO parts mn:=Iff.rfl
  by_cases c1:to=0
  ·skip
   repeat first|refine aa ?_|intro _|refine bP ?_
   exact KX.d7 ag ae ⟨by rw [aC (show ¬eC _ ⟨frm,to,item,mn,parts⟩ from fun q=>(e.1 q).1 c1)];rfl,rfl⟩
  ·skip
   repeat first|refine aa ?_|intro _|refine bP ?_
   refine GO.ef (Ef.d7 (jI pad parts.length pcap parts mn rfl hm) rfl) ac ?_
   rintro _ _ ⟨rfl,rfl⟩
   repeat first|refine aa ?_|intro _|refine bP ?_
   exact KX.d7 ag ae ⟨by rw [fx (e.trans ⟨fun q=>q.2,fun q=>⟨c1,q⟩⟩)];rfl,rfl⟩
 have e:eC k ⟨frm,to,item,mn,parts⟩↔parts.length=0:=by
  unfold eC
  rw [if_neg k0,if_neg ab,if_neg ab,if_neg k5,if_neg k7,if_neg k9]
 repeat first|refine aa ?_|intro _|refine bP ?_
 exact KX.d7 ag ae ⟨by rw [fx e,← fx hlen];rfl,rfl⟩
end Go.Proofs.YtommnllbflbdmaaGreatDoor
namespace Go.V
section gf
variable {P:Program} {N:Nat} {ops:Array Oper} {done done' : List Nat} {n:Nat} {pend:List PE} {env env' : Env} {L L' : List HP} {K:Post}
theorem GF.conseq (hd:(dG ops.size done == dG ops.size done')=true) (he:EnvSub env env') (hL:Ent L L') (h:GF P N ops done' n pend env' L' K):GF P N ops done n pend env L K:=by
 have e:=eq_of_beq hd
 intro hK hs hcl θ Y a w S i hpo hpw
 rw [e] at hcl ⊢
 exact h hK hs hcl θ Y a w S (i.less he hL) hpo hpw
theorem GF.ent (hL:Ent L L') (h:GF P N ops done n pend env L' K):GF P N ops done n pend env L K:=fun hK hs hcl θ Y a w S i hpo hpw=>h hK hs hcl θ Y a w S (i.less (EnvSub.refl _) hL) hpo hpw
end gf
end Go.V
namespace Go.Proofs.YtommnllbflbdmaaGreatDoor
section
open Go.V
attribute [local irreducible] G GO GP GPW GPK Ev Ef EfR Ent CB GB V.Enters
theorem nS {L:List HP} (t:Int):Tri Tryz.prog 235 #[.int .i64 t] L (fun v L'=>v=.bool (dB (gH t))∧L' = L):=by
 refine Tri.body (args:=[.int .i64 t]) 9 GC Tryz.func235 rfl rfl rfl (by simp) ?_
 by_cases h1:1≤t
 ·repeat first|refine aa ?_|intro
  exact KX.d7 ag (Ent.refl _) ⟨by rw [fx (show gH t↔t≤1048576 from ⟨fun q=>q.2,fun q=>⟨h1,q⟩⟩)];rfl,rfl⟩
 ·repeat first|refine aa ?_|intro
  exact KX.d7 ag (Ent.refl _) ⟨by rw [aC (show ¬gH t from fun q=>h1 q.1)];rfl,rfl⟩
instance (s:StM):Decidable (iK s):=by unfold iK;infer_instance
theorem pu {L:List HP} (s:StV) [hr:Rds L s.mad MvV aF 5 s.moves] (hn:∀ m∈s.moves,0≤m.m.n) (hl:s.moves.length≤1000000) :
  Tri Tryz.prog 150 #[.agg (aB s).toArray] L (fun v L'=>v=.bool (dB (iK s.m))∧L' = L):=by
 have hml:s.m.moves.length=s.moves.length:=by show (s.moves.map MvV.m).length=_;rw [aD]
 refine Tri.body (args:=[.agg (aB s).toArray]) 59 Ic Tryz.func150 rfl rfl rfl (by simp) ?_
 simp only [aB]
 by_cases c1:s.rule = -1
 case neg =>
  rw [aC (show ¬iK s.m from fun q=>c1 q.1)]
  repeat first|refine aa ?_|intro
  exact KX.d7 ag ae ⟨rfl,rfl⟩
 repeat first|refine aa ?_|intro
 refine GO.ef (Ef.d7 (nS s.times) rfl) ac ?_
 rintro _ _ ⟨rfl,rfl⟩
 by_cases c2:gH s.times
 case neg =>
  rw [aC c2,aC (show ¬iK s.m from fun q=>c2 q.2.1)]
  repeat first|refine aa ?_|intro
  exact KX.d7 ag ae ⟨rfl,rfl⟩
 rw [aL c2]
 by_cases c3:s.moves.length=2
 case neg =>
  rw [aC (show ¬iK s.m from fun q=>c3 (hml.symm.trans q.2.2.1))]
  repeat first|refine aa ?_|intro
  exact KX.d7 ag ae ⟨rfl,rfl⟩
 have e0:s.m.moves[0]! = s.moves[0]!.m:=ez _ (show 0<s.moves.length by omega)
 have e1:s.m.moves[1]! = s.moves[1]!.m:=ez _ (show 1<s.moves.length by omega)
 have n0:=hn _ (aG (show 0<s.moves.length by omega))
 have n1:=hn _ (aG (show 1<s.moves.length by omega))
 have e:iK s.m↔s.moves[0]!.m.to=0∧s.moves[1]!.m.frm=0∧s.moves[1]!.m.to=s.moves[0]!.m.frm∧s.moves[0]!.m.n % s.times=0∧s.moves[1]!.m.n % s.times=0:=by
  unfold iK
  rw [e0,e1]
  exact ⟨fun q=>q.2.2.2,fun q=>⟨c1,c2,hml.trans c3,q⟩⟩
 unfold gH at c2
 have t0:(0:Int).toNat=0:=rfl
 have t1:(1:Int).toNat=1:=rfl
 have i0:(0:Int).toNat<s.moves.length:=ab
 have i1:(1:Int).toNat<s.moves.length:=ab
 rw [← t0] at e n0
 rw [← t1] at e n1
 rw [fx e]
 clear e0 e1 e
 repeat first|((fail_if_success (with_reducible refine G.atS 3 ?_));(with_reducible apply G.seq))|refine bU ?_|intro
 rename_i b1
 refine G.d9 (α:=Nat×Nat) (fun _=>True) (fun g=>[(1,.pointer (some ⟨b1,0,none⟩)),(3,.pointer (some ⟨g.1,0,none⟩)),(4,.pointer (some ⟨g.2,0,none⟩))]) (fun g=>obj g.1 tMv (aF s.moves[(0:Int).toNat]!)::obj g.2 tMv (aF s.moves[(1:Int).toNat]!)::obj b1 aU [.int .i64 s.id,.int .i64 s.kind,.int .i64 s.actor,.int .i64 s.tick,.int .i64 s.rule,.int .i64 s.times,.slice s.mad s.moves.length s.mcap]::L) ?_ ?_
 ·refine G.f7 mixed an ?_
  refine GF.evP (i:=0) rfl an (Ev.fieldAddr rfl) ac ?_
  refine GF.evL (i:=1) rfl an (Ev.d8 rfl rfl) ac ?_
  refine GF.evL (i:=2) rfl an (Ev.indexAddr rfl rfl ab ab ab) ac ?_
  refine GF.evL (i:=3) rfl an (Ev.e8 rfl ab) ac ?_
  refine GF.evP (i:=4) rfl an (Ev.fieldAddr rfl) ac ?_
  refine GF.evL (i:=5) rfl an (Ev.d8 rfl rfl) ac ?_
  refine GF.evL (i:=6) rfl an (Ev.indexAddr rfl rfl ab ab ab) ac ?_
  refine GF.evL (i:=7) rfl an (Ev.e8 rfl ab) ac ?_
  refine GF.d7 8 9 an ?_ ?_
  ·refine GE.ef rfl Ef.alloc ac ?_
   rintro _ _ ⟨b3,rfl,rfl⟩
   refine ⟨(by intro pe hp;simp only [be,aO,or_false] at hp;rcases hp with rfl|rfl|rfl|rfl|rfl|rfl<;>first|exact Ev.d8 rfl rfl|exact Ev.indexAddr rfl rfl ab ab ab|exact Ev.e8 rfl ab),?_⟩
   refine GF.plan [.ef 9,.ef 10,.ef 11] an rfl ?_
   repeat first|refine aa ?_|intro
   exact ⟨(b3,_),trivial,ai,by exact ae⟩
  ·refine GE.ef rfl Ef.alloc ac ?_
   rintro _ _ ⟨b4,rfl,rfl⟩
   refine ⟨(by intro pe hp;simp only [be,aO,or_false] at hp;rcases hp with rfl|rfl|rfl|rfl|rfl|rfl<;>first|exact Ev.d8 rfl rfl|exact Ev.indexAddr rfl rfl ab ab ab|exact Ev.e8 rfl ab),?_⟩
   refine GF.plan [.ef 8,.ef 10,.ef 11] an rfl ?_
   repeat first|refine aa ?_|intro
   exact ⟨(_,b4),trivial,ai,by exact ae⟩
 rintro ⟨b3,b4⟩ _
 generalize s.moves[(0:Int).toNat]! = m0 at *
 generalize s.moves[(1:Int).toNat]! = m1 at *
 simp only [aF]
 by_cases d1:m0.m.to=0
 case neg =>
  repeat first|refine aa ?_|intro
  exact KX.d7 ag ae ⟨by rw [aC (fun h=>d1 h.1)];rfl,rfl⟩
 by_cases d2:m1.m.frm=0
 case neg =>
  repeat first|refine aa ?_|intro
  exact KX.d7 ag ae ⟨by rw [aC (fun h=>d2 h.2.1)];rfl,rfl⟩
 by_cases d3:m1.m.to=m0.m.frm
 case neg =>
  repeat first|refine aa ?_|intro
  exact KX.d7 ag ae ⟨by rw [aC (fun h=>d3 h.2.2.1)];rfl,rfl⟩
 by_cases d4:m0.m.n % s.times=0
 case neg =>
  repeat first|refine aa ?_|intro
  exact KX.d7 ag ae ⟨by rw [aC (fun h=>d4 h.2.2.2.1)];rfl,rfl⟩
 repeat first|refine aa ?_|intro
 refine KX.d7 ag ae ⟨?_,rfl⟩
 by_cases d5:m1.m.n % s.times=0
 ·rw [aL d5,aL ⟨d1,d2,d3,d4,d5⟩];rfl
 ·rw [aC d5,aC (fun h=>d5 h.2.2.2.2)];rfl
end
section
open Go.V
attribute [local irreducible] G GO GP GPW GPK Ev Ef EfR Ent CB GB V.Enters
def mtP (pa po:MvM→Int) (times:Int) (ms:List MvV) (am:List (Int×Int)):Prop:=∀ i:Nat,i<ms.length→po ms[i]!.m=0∧pa ms[i]!.m=pa ms[0]!.m∧ms[i]!.m.item=am[i]!.1∧ms[i]!.m.n=am[i]!.2*times
noncomputable instance (pa po t ms am):Decidable (mtP pa po t ms am):=Classical.propDecidable _
def AskM (f:FuncId) (p:MvM→Int):Prop:=∀ (m:MvV) (L:List HP),Tri Tryz.prog f #[.agg (aF m).toArray] L (fun v L'=>v=.int .i64 (p m.m)∧L' = L)
theorem CJ:AskM 237 (fun m=>m.frm):=by
 intro m L
 refine Tri.body (args:=[.agg (aF m).toArray]) 5 Gz Tryz.func237 rfl rfl rfl (by simp) ?_
 repeat first|refine aa ?_|intro
 exact KX.d7 ag ae ⟨rfl,rfl⟩
theorem DW:AskM 238 (fun m=>m.to):=by
 intro m L
 refine Tri.body (args:=[.agg (aF m).toArray]) 5 Gy Tryz.func238 rfl rfl rfl (by simp) ?_
 repeat first|refine aa ?_|intro
 exact KX.d7 ag ae ⟨rfl,rfl⟩
abbrev xL:List Stp:=[.ev 0,.ev 1,.ef 2,.ev 3,.ev 4,.ev 5,.ev 6,.ev 8,.ev 9,.ev 10,.ev 11,.ef 7,.ef 12,.ev 13,.ev 14,.ev 15,.ev 16,.ev 17,.ev 18,.ev 19,.ev 20,.ev 21,.ev 22,.ev 23,.ev 24,.ev 25,.ev 26,.ev 27,.ev 28,.ev 29,.ev 30,.ev 31,.ev 32,.ev 33,.ev 34,.ev 35,.ev 36,.ev 37]
theorem dZ {φ ψ:Prop} (k:ψ) (h:Hid ψ→φ:=by intro k;(with_reducible apply G.d8);first|refine G.d7 (N:=58) (id:=4) xL mixed an (Hid.out k)):φ:=h ⟨k⟩
theorem ow {L:List HP} (b:Nat) (s:StV) (ht:gH s.times) (fa fo:FuncId) (pa po:MvM→Int) (ha:AskM fa pa) (ho:AskM fo po) (ad:Option Addr) (n c:Nat) (ms:List MvV) [hr:Rds L ad MvV aF 5 ms] (a2:Option Addr) (n2 c2:Nat) (am:List (Int×Int)) [hr2:Rds L a2 (Int×Int) bV 2 am] (hn:n=ms.length) (hn2:n2=am.length) (hl:ms.length=am.length) (hl6:am.length≤64) (hb:AmB am) :
  Tri Tryz.prog 236 #[.slice ad n c,.slice a2 n2 c2,.func (.func fa) #[] #[],.func (.func fo) #[] #[],.pointer (some ⟨b,0,none⟩)] (obj b aU (aB s)::L) (fun v L'=>v=.bool (dB (mtP pa po s.times ms am))∧L' = obj b aU (aB s)::L):=by
 subst hn hn2
 obtain ⟨hT1,hT2⟩:=ht
 refine Tri.body (args:=[.slice ad ms.length c,.slice a2 am.length c2,.func (.func fa) #[] #[],.func (.func fo) #[] #[],.pointer (some ⟨b,0,none⟩)]) 58 GA Tryz.func236 rfl rfl rfl (by simp) ?_
 repeat first|refine aa ?_|intro _|refine dZ ?_
 refine G.loop (α:=Nat) (fun i=>i≤ms.length∧∀ j:Nat,j<i→po ms[j]!.m=0∧pa ms[j]!.m=pa ms[0]!.m∧ms[j]!.m.item=am[j]!.1∧ms[j]!.m.n=am[j]!.2*s.times) (fun i=>[(0,.slice ad ms.length c),(1,.slice a2 am.length c2),(2,.func (.func fa) #[] #[]),(3,.func (.func fo) #[] #[]),(4,.pointer (some ⟨b,0,none⟩)),(12,.slice ad ms.length c),(13,.int .i64 ms.length),(14,.int .i64 (i:Int))]) (fun _=>obj b aU (aB s)::L) (fun i=>ms.length - i) 0 ⟨al _,fun j h=>absurd h (bI j)⟩ ai (Ent.refl _) ?_
 rintro i ⟨hi,hdo⟩
 by_cases hlt:i<ms.length
 case neg =>
  repeat first|refine aa ?_|intro _|refine dZ ?_
  exact KX.d7 ag ae ⟨by rw [aL (show mtP pa po s.times ms am from fun j hj=>hdo j ab)];rfl,rfl⟩
 have hii:(i:Int).toNat=i:=av i
 have hno:∀ {p:Prop},¬p→(po ms[i]!.m=0∧pa ms[i]!.m=pa ms[0]!.m∧ms[i]!.m.item=am[i]!.1∧ms[i]!.m.n=am[i]!.2*s.times→p)→dB (mtP pa po s.times ms am)=false:=fun h q=>aC (fun r=>h (q (r i hlt)))
 obtain ⟨ha1,ha2⟩:=hb _ (aG (show i<am.length by omega))
 have hmu:0≤am[i]!.2*s.times∧am[i]!.2*s.times≤1099511627776*1048576:=⟨da ha1 ab,dX ha2 hT2 ab ab⟩
 have t0:ms[0]! = ms[(0:Int).toNat]!:=rfl
 rw [t0] at hno
 rw [← hii] at hmu hno
 obtain ⟨hmu1,hmu2⟩:=hmu
 have hlt' : (i:Int).toNat<ms.length:=ab
 have hlt2:(i:Int).toNat<am.length:=ab
 repeat first|refine aa ?_|intro _|refine dZ ?_
 refine GPW.ef (Ef.d9 rfl rfl (ho ms[(i:Int).toNat]! _)) ac ?_
 rintro _ _ ⟨rfl,rfl⟩
 by_cases c1:po ms[(i:Int).toNat]!.m=0
 case neg =>
  repeat first|refine aa ?_|intro _|refine dZ ?_
  exact KX.d7 ag ae ⟨by rw [hno c1 (fun q=>q.1)];rfl,rfl⟩
 repeat first|refine aa ?_|intro _|refine dZ ?_
 refine GPW.ef (Ef.d9 rfl rfl (ha ms[(i:Int).toNat]! _)) ac ?_
 rintro _ _ ⟨rfl,rfl⟩
 repeat first|refine aa ?_|intro _|refine dZ ?_
 refine GPW.ef (Ef.d9 rfl rfl (ha ms[(0:Int).toNat]! _)) ac ?_
 rintro _ _ ⟨rfl,rfl⟩
 by_cases c2:pa ms[(i:Int).toNat]!.m=pa ms[(0:Int).toNat]!.m
 case neg =>
  repeat first|refine aa ?_|intro _|refine dZ ?_
  exact KX.d7 ag ae ⟨by rw [hno c2 (fun q=>q.2.1)];rfl,rfl⟩
 by_cases c3:ms[(i:Int).toNat]!.m.item=am[(i:Int).toNat]!.1
 case neg =>
  repeat first|refine aa ?_|intro _|refine dZ ?_
  exact KX.d7 ag ae ⟨by rw [hno c3 (fun q=>q.2.2.1)];rfl,rfl⟩
 by_cases c4:ms[(i:Int).toNat]!.m.n=am[(i:Int).toNat]!.2*s.times
 case neg =>
  repeat first|refine aa ?_|intro _|refine dZ ?_
  exact KX.d7 ag ae ⟨by rw [hno c4 (fun q=>q.2.2.2)];rfl,rfl⟩
 repeat first|refine aa ?_|intro _|refine dZ ?_
 refine ⟨i+1,⟨ab,fun j hj=>?_⟩,ab,?_,by exact ae⟩
 ·rcases bG j i with h|h
  ·exact hdo j h
  ·obtain rfl:j=i:=ab
   rw [t0]
   rw [hii] at c1 c2 c3 c4
   exact ⟨c1,c2,c3,c4⟩
 ·rw [aM i]
  exact ai
abbrev vd:List Stp:=[.ev 0,.ev 1,.ev 2,.ev 3,.ev 4,.ev 5,.ev 6,.ev 7,.ev 8,.ev 9,.ev 10,.ef 11,.ev 12,.ev 13,.ev 14,.ev 15,.ev 16,.ev 17,.ev 18,.ev 19,.ev 20,.ev 21,.ev 22,.ef 23,.ev 24,.ev 25]
theorem cl {φ ψ:Prop} (k:ψ) (h:Hid ψ→φ:=by intro k;(with_reducible apply G.d8);first|refine G.d7 (N:=97) (id:=17) vd mixed an (Hid.out k)):φ:=h ⟨k⟩
theorem tU {L R:List HP} {b:Nat} {sh:Int} {x:BkX} [hp:PickObj L b tBk (bz sh x) R] (s:StV) [hrm:Rds L s.mad MvV aF 5 s.moves] (hc:x.cat.m.Ok) (hB:x.cat.B) (hms:s.moves.length≤64) (hcap:s.moves.length≤s.mcap) (hI:I64 s.rule) :
  Tri Tryz.prog 149 #[.pointer (some ⟨b,0,none⟩),.agg (aB s).toArray] (catP x.cat::L) (fun v L'=>v=.bool (dB (eW x.cat.m.rules s.rule s.times (s.moves.map MvV.m)))∧L' = catP x.cat::L):=by
 obtain ⟨hI1,hI2⟩:=hI
 have hrl:=hB.rules
 have hlen:x.cat.m.rules.length=x.cat.rules.length:=by simp [CatV.m]
 refine Tri.body (args:=[.pointer (some ⟨b,0,none⟩),.agg (aB s).toArray]) 97 Id Tryz.func149 rfl rfl rfl (by simp) ?_
 repeat first|((fail_if_success (with_reducible refine G.e7 2 ?_));(with_reducible apply G.seq))|refine bU ?_|intro _|refine cl ?_
 rename_i b3
 refine G.d9 (α:=Unit) (fun _=>True) (fun _=>[(0,.pointer (some ⟨b,0,none⟩)),(3,.pointer (some ⟨b3,0,none⟩)),(5,.int .i64 (aH s.rule))]) (fun _=>obj b3 aU (aB s)::catP x.cat::L) ?_ ?_
 ·by_cases hf:s.rule < -1
  ·repeat first|refine aa ?_|intro _|refine cl ?_
   refine ⟨(),trivial,?_,by exact ae⟩
   unfold aH
   rw [if_pos hf]
   exact ai
  ·repeat first|refine aa ?_|intro _|refine cl ?_
   refine ⟨(),trivial,?_,by exact ae⟩
   unfold aH
   rw [if_neg hf]
   exact ai
 rintro _ _
 by_cases h1:0≤aH s.rule
 case neg =>
  repeat first|refine aa ?_|intro _|refine cl ?_
  exact KX.d7 ag ae ⟨by rw [aC (fun h=>h1 h.1.1)];rfl,rfl⟩
 by_cases h2:aH s.rule<x.cat.rules.length
 case neg =>
  repeat first|refine aa ?_|intro _|refine cl ?_
  exact KX.d7 ag ae ⟨by rw [aC (fun h=>h2 (by have:=h.1.2;omega))];rfl,rfl⟩
 repeat first|refine aa ?_|intro _|refine cl ?_
 refine GO.ef (Ef.d7 (nS s.times) rfl) ac ?_
 rintro _ _ ⟨rfl,rfl⟩
 by_cases h3:gH s.times
 case neg =>
  rw [aC h3]
  repeat first|refine aa ?_|intro _|refine cl ?_
  exact KX.d7 ag ae ⟨by rw [aC (fun h=>h3 h.2.1)];rfl,rfl⟩
 rw [aL h3]
 have hix:(aH s.rule).toNat<x.cat.rules.length:=ab
 have hmem:x.cat.rules[(aH s.rule).toNat]!∈x.cat.rules:=aG hix
 have hrm' : x.cat.m.rules[(aH s.rule).toNat]! = x.cat.rules[(aH s.rule).toNat]!.m:=ez RuV.m hix
 have hmm:x.cat.rules[(aH s.rule).toNat]!.m∈x.cat.m.rules:=alStd0List_mem_map_of_mem hmem
 refine GO.ent (Ent.at (A:=catP x.cat) catOpenR) ?_
 refine GO.ent (Ent.at (A:=allP ruP x.cat.rules) ((Ent.e7 (f:=ruP) hmem).trans ruOpen)) ?_
 have hru:=hB.ru _ hmem
 have hct:=hc.take _ hmm
 have hcg:=hc.give _ hmm
 have hcb:=hc.back _ hmm
 have hcr:eW x.cat.m.rules s.rule s.times (s.moves.map MvV.m)↔(x.cat.rules[(aH s.rule).toNat]!.spawn=false∧¬(s.rule < -1∧x.cat.rules[(aH s.rule).toNat]!.chance ≥ x.cat.rules[(aH s.rule).toNat]!.of_)∧s.moves.length=x.cat.rules[(aH s.rule).toNat]!.take.l.length+(x.cat.rules[(aH s.rule).toNat]!.given s.rule).l.length ∧
   (∀ i:Nat,i<x.cat.rules[(aH s.rule).toNat]!.take.l.length→jV (s.moves.map MvV.m) s.times x.cat.rules[(aH s.rule).toNat]!.take.l[i]! (s.moves.map MvV.m)[i]!) ∧
   (∀ i:Nat,i<(x.cat.rules[(aH s.rule).toNat]!.given s.rule).l.length→ka ((s.moves.map MvV.m)[x.cat.rules[(aH s.rule).toNat]!.take.l.length]!).to s.times (x.cat.rules[(aH s.rule).toNat]!.given s.rule).l[i]! (s.moves.map MvV.m)[x.cat.rules[(aH s.rule).toNat]!.take.l.length+i]!)):=by
  unfold eW
  rw [hrm',qq,aD]
  exact ⟨fun h=>h.2.2,fun h=>⟨⟨h1,ab⟩,h3,h⟩⟩
 obtain ⟨hr1,hr2,hr3⟩:=hru
 simp only [AmB,RuV.m] at hct hcg hcb
 have hgl:(x.cat.rules[(aH s.rule).toNat]!.given s.rule).l.length≤64:=by unfold RuV.given;split<;>assumption
 have hgb:∀ a∈(x.cat.rules[(aH s.rule).toNat]!.given s.rule).l,0≤a.2∧a.2≤1099511627776:=by unfold RuV.given;split<;>assumption
 refine GO.ent (L':=amS (x.cat.rules[(aH s.rule).toNat]!.given s.rule)::amS x.cat.rules[(aH s.rule).toNat]!.take::isl cw 9 x.cat.rad x.cat.rules::catP x.cat::obj b3 aU (aB s)::L) ?_ ?_
 ·unfold RuV.given
  split
  ·exact ae
  ·exact ae
 repeat first|((fail_if_success (with_reducible refine G.e7 8 ?_));(with_reducible apply G.seq))|refine bU ?_|intro _|refine cl ?_
 rename_i b6
 have hg1:∀ h:s.rule < -1,x.cat.rules[(aH s.rule).toNat]!.given s.rule=x.cat.rules[(aH s.rule).toNat]!.back:=fun h=>if_pos h
 have hg2:∀ h:¬s.rule < -1,x.cat.rules[(aH s.rule).toNat]!.given s.rule=x.cat.rules[(aH s.rule).toNat]!.give:=fun h=>if_neg h
 clear hrm' hmem hmm hcg hcb hr2 hr3 hix
 generalize x.cat.rules[(aH s.rule).toNat]! = r at *
 generalize r.given s.rule=gv at *
 by_cases h5:s.rule < -1∧r.chance ≥ r.of_
 case pos =>
  obtain ⟨h51,h52⟩:=h5
  repeat first|refine aa ?_|intro _|refine cl ?_
  exact KX.d7 ag ae ⟨by rw [aC (fun h=>(hcr.1 h).2.1 ⟨h51,h52⟩)];rfl,rfl⟩
 refine G.d9 (α:=Unit) (fun _=>True) (fun _=>[(0,.pointer (some ⟨b,0,none⟩)),(3,.pointer (some ⟨b3,0,none⟩)),(6,.pointer (some ⟨b6,0,none⟩)),(7,.slice gv.ad gv.l.length gv.cap)]) (fun _=>obj b6 tRu (cw r)::obj b3 aU (aB s)::amS gv::amS r.take::catP x.cat::L) ?_ ?_
 ·by_cases hf:s.rule < -1
  ·have h52:¬r.chance ≥ r.of_:=fun h=>h5 ⟨hf,h⟩
   rw [hg1 hf]
   repeat first|refine aa ?_|intro _|refine cl ?_
   exact ⟨(),trivial,ai,by exact ae⟩
  ·rw [hg2 hf]
   repeat first|refine aa ?_|intro _|refine cl ?_
   exact ⟨(),trivial,ai,by exact ae⟩
 rintro _ _
 clear hg1 hg2
 cases h4:r.spawn with
 | true =>
  repeat first|refine aa ?_|intro _|refine cl ?_
  rw [h4]
  repeat first|refine aa ?_|intro _|refine cl ?_
  exact KX.d7 ag ae ⟨by rw [aC (fun h=>by have:=(hcr.1 h).1;rw [h4] at this;cases this)];rfl,rfl⟩
 | false =>
 by_cases h6:s.moves.length=r.take.l.length+gv.l.length
 case neg =>
  repeat first|refine aa ?_|intro _|refine cl ?_
  rw [h4]
  repeat first|refine aa ?_|intro _|refine cl ?_
  exact KX.d7 ag ae ⟨by rw [aC (fun h=>h6 (hcr.1 h).2.2.1)];rfl,rfl⟩
 have htl:r.take.l.length≤s.moves.length:=ab
 have hm1:mtP (fun m=>m.frm) (fun m=>m.to) s.times (s.moves.take r.take.l.length) r.take.l↔∀ i:Nat,i<r.take.l.length→jV (s.moves.map MvV.m) s.times r.take.l[i]! (s.moves.map MvV.m)[i]!:=by
  have e:∀ i,i<r.take.l.length→(s.moves.take r.take.l.length)[i]! = s.moves[i]!:=fun i hi=>by rw [getElem!_of (by rw [ba];omega),getElem!_of ab,eK]
  unfold mtP jV
  rw [ba,Nat.min_eq_left htl]
  constructor
  ·intro h i hi
   obtain ⟨g1,g2,g3,g4⟩:=h i hi
   rw [e i hi] at g1 g2 g3 g4
   rw [e 0 ab] at g2
   rw [iP _ ab,iP _ ab]
   exact ⟨g2,g1,g3,g4⟩
  ·intro h i hi
   obtain ⟨g1,g2,g3,g4⟩:=h i hi
   rw [iP _ ab] at g1 g2 g3 g4
   rw [iP _ ab] at g1
   rw [e i hi,e 0 ab]
   exact ⟨g2,g1,g3,g4⟩
 have hm2:mtP (fun m=>m.to) (fun m=>m.frm) s.times (s.moves.drop r.take.l.length) gv.l↔∀ i:Nat,i<gv.l.length→ka ((s.moves.map MvV.m)[r.take.l.length]!).to s.times gv.l[i]! (s.moves.map MvV.m)[r.take.l.length+i]!:=by
  have e:∀ i,i<gv.l.length→(s.moves.drop r.take.l.length)[i]! = s.moves[r.take.l.length+i]!:=fun i hi=>by rw [getElem!_of (by rw [cL];omega),getElem!_of ab,List.getElem_drop]
  unfold mtP ka
  rw [cL,show s.moves.length - r.take.l.length=gv.l.length by omega]
  constructor
  ·intro h i hi
   obtain ⟨g1,g2,g3,g4⟩:=h i hi
   rw [e i hi] at g1 g2 g3 g4
   rw [e 0 ab] at g2
   rw [iP _ ab,iP _ ab]
   exact ⟨g1,g2,g3,g4⟩
  ·intro h i hi
   obtain ⟨g1,g2,g3,g4⟩:=h i hi
   rw [iP _ ab] at g1 g2 g3 g4
   rw [iP _ ab] at g2
   rw [e i hi,e 0 ab]
   exact ⟨g1,g2,g3,g4⟩
 haveI hrt:=Rds.take hrm r.take.l.length
 haveI hrd:=Rds.drop hrm hcap r.take.l.length
 repeat first|refine aa ?_|intro _|refine cl ?_
 rw [h4]
 repeat first|refine aa ?_|intro _|refine cl ?_
 refine GPW.ent (L':=obj b3 aU (aB s)::obj b6 tRu (cw r)::amS gv::amS r.take::catP x.cat::L) ae ?_
 rw [show ((Int.toNat (r.take.l.length:Int)))=r.take.l.length from av _]
 refine GPW.ef (Ef.d9 rfl rfl (ow (L:=obj b6 tRu (cw r)::amS gv::amS r.take::catP x.cat::L) b3 s h3 237 238 (fun m=>m.frm) (fun m=>m.to) CJ DW s.mad r.take.l.length s.mcap (s.moves.take r.take.l.length) (hr:=inferInstance) r.take.ad r.take.l.length r.take.cap r.take.l (by rw [ba];omega) rfl (by rw [ba];omega) hr1 hct)) ac ?_
 rintro _ _ ⟨rfl,rfl⟩
 by_cases q1:mtP (fun m=>m.frm) (fun m=>m.to) s.times (s.moves.take r.take.l.length) r.take.l
 case neg =>
  rw [aC q1]
  repeat first|refine aa ?_|intro _|refine cl ?_
  exact KX.d7 ag ae ⟨by rw [aC (fun h=>q1 (hm1.2 (hcr.1 h).2.2.2.1))];rfl,rfl⟩
 rw [aL q1]
 repeat first|refine aa ?_|intro _|refine cl ?_
 rw [show ((Int.toNat (r.take.l.length:Int)))=r.take.l.length from av _]
 refine GPW.ef (Ef.d9 rfl rfl (ow (L:=obj b6 tRu (cw r)::amS gv::amS r.take::catP x.cat::L) b3 s h3 238 237 (fun m=>m.to) (fun m=>m.frm) DW CJ (advA s.mad s.mcap 5 r.take.l.length) (s.moves.length - r.take.l.length) (s.mcap - r.take.l.length) (s.moves.drop r.take.l.length) (hr:=inferInstance) gv.ad gv.l.length gv.cap gv.l (by rw [cL]) rfl (by rw [cL];omega) hgl hgb)) ac ?_
 rintro _ _ ⟨rfl,rfl⟩
 repeat first|refine aa ?_|intro _|refine cl ?_
 refine KX.d7 ag ae ⟨?_,rfl⟩
 by_cases q2:mtP (fun m=>m.to) (fun m=>m.frm) s.times (s.moves.drop r.take.l.length) gv.l
 ·rw [aL q2,aL (hcr.2 ⟨h4,h5,h6,hm1.1 q1,hm2.1 q2⟩)];rfl
 ·rw [aC q2,aC (fun h=>q2 (hm2.2 (hcr.1 h).2.2.2.2))];rfl
end
end Go.Proofs.YtommnllbflbdmaaGreatDoor
