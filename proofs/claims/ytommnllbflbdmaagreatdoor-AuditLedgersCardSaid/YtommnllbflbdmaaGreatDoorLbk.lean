/- Lemmas. -/
import Derived.Test.YtommnllbflbdmaaGreatDoorLbj
set_option linter.all false
set_option maxHeartbeats 4000000
namespace Go.Proofs.YtommnllbflbdmaaGreatDoor
open Go.V
attribute [local irreducible] G GO GP GPW GPK Ev Ef EfR Ent CB GB V.Enters
def fg(k:Int)(m:MvM):Prop :=
 if k=0 then m.frm=0∧m.parts.length=0 else if k=1∨k=6 then m.to=0∧m.parts.length=0 else if k=2∨k=3∨k=8 then m.frm≠0∧m.to≠0∧m.parts.length=0
 else if k=5 then m.frm=0∧gj m.parts m.n else if k=7 then m.frm≠0∧gj m.parts m.n else if k=9 then m.to≠0∧gj m.parts m.n else m.parts.length=0
instance (k:Int)(m:MvM):Decidable (fg k m):=by unfold fg;infer_instance
theorem fQ{p q:Prop}[Decidable p][Decidable q](h:p↔q):dB p=dB q:=by
 by_cases c:p
 ·rw[aU c,aU (h.1 c)]
 ·rw[aF c,aF (fun x=>c (h.2 x))]
abbrev yH:List Stp:=[.ev 0,.ev 1,.ev 2,.ev 3,.ev 4,.ev 5,.ev 6,.ev 7]
theorem cc{φ ψ:Prop}(k:ψ)(h:Hid ψ→φ:=by intro k;(with_reducible apply G.d8);first|refine G.d7 (N:=85) (id:=1) yH mixed ap (Hid.out k)):φ:=h ⟨k⟩
theorem BY{L:LH}(k:Int)(m:MvV)[hr:Rds L m.pad Lot an 3 m.m.parts](hm:m.m.parts.length≤9223372036854775807):Tri ah 148 #[ab k,.agg (aM m).toArray] L (fun v L'=>v=.bool (dB (fg k m.m))∧L' = L):=by
 obtain⟨⟨frm,to,item,mn,parts⟩,pad,pcap⟩:=m;dsimp only at hr hm ⊢;refine Tri.body (args:=[ab k,.agg (aM ⟨⟨frm,to,item,mn,parts⟩,pad,pcap⟩).toArray]) 85 JA Tryz.func148 rfl rfl rfl (by simp) ?_;simp only[aM];have hlen:((parts.length:Int)=0)↔parts.length=0:=ac;by_cases k0:k=0
 ·subst k0;have e:fg 0 ⟨frm,to,item,mn,parts⟩↔frm=0∧parts.length=0:=Iff.rfl;by_cases c1:frm=0
  ·repeat first|refine aa ?_|intro _|refine cc ?_
   exact KX.d7 ai ag ⟨by rw[fQ (e.trans ⟨fun q=>q.2,fun q=>⟨c1,q⟩⟩),←fQ hlen];rfl,rfl⟩
  ·skip;repeat first|refine aa ?_|intro _|refine cc ?_
   exact KX.d7 ai ag ⟨by rw[aF (show ¬fg _ ⟨frm,to,item,mn,parts⟩ from fun q=>c1 (e.1 q).1)];rfl,rfl⟩
 by_cases k1:k=1
 ·subst k1;have e:fg 1 ⟨frm,to,item,mn,parts⟩↔to=0∧parts.length=0:=Iff.rfl;by_cases c1:to=0
  ·repeat first|refine aa ?_|intro _|refine cc ?_
   exact KX.d7 ai ag ⟨by rw[fQ (e.trans ⟨fun q=>q.2,fun q=>⟨c1,q⟩⟩),←fQ hlen];rfl,rfl⟩
  ·skip;repeat first|refine aa ?_|intro _|refine cc ?_
   exact KX.d7 ai ag ⟨by rw[aF (show ¬fg _ ⟨frm,to,item,mn,parts⟩ from fun q=>c1 (e.1 q).1)];rfl,rfl⟩
 by_cases k6:k=6
 ·subst k6;have e:fg 6 ⟨frm,to,item,mn,parts⟩↔to=0∧parts.length=0:=Iff.rfl;by_cases c1:to=0
  ·repeat first|refine aa ?_|intro _|refine cc ?_
   exact KX.d7 ai ag ⟨by rw[fQ (e.trans ⟨fun q=>q.2,fun q=>⟨c1,q⟩⟩),←fQ hlen];rfl,rfl⟩
  ·skip;repeat first|refine aa ?_|intro _|refine cc ?_
   exact KX.d7 ai ag ⟨by rw[aF (show ¬fg _ ⟨frm,to,item,mn,parts⟩ from fun q=>c1 (e.1 q).1)];rfl,rfl⟩
 by_cases k2:k=2
 ·subst k2;have e:fg 2 ⟨frm,to,item,mn,parts⟩↔frm≠0∧to≠0∧parts.length=0:=Iff.rfl;by_cases c1:frm=0
  ·skip;repeat first|refine aa ?_|intro _|refine cc ?_
   exact KX.d7 ai ag ⟨by rw[aF (show ¬fg _ ⟨frm,to,item,mn,parts⟩ from fun q=>(e.1 q).1 c1)];rfl,rfl⟩
  by_cases c2:to=0
  ·skip;repeat first|refine aa ?_|intro _|refine cc ?_
   exact KX.d7 ai ag ⟨by rw[aF (show ¬fg _ ⟨frm,to,item,mn,parts⟩ from fun q=>(e.1 q).2.1 c2)];rfl,rfl⟩
  repeat first|refine aa ?_|intro _|refine cc ?_
  exact KX.d7 ai ag ⟨by rw[fQ (e.trans ⟨fun q=>q.2.2,fun q=>⟨c1,c2,q⟩⟩),←fQ hlen];rfl,rfl⟩
 by_cases k3:k=3
 ·subst k3;have e:fg 3 ⟨frm,to,item,mn,parts⟩↔frm≠0∧to≠0∧parts.length=0:=Iff.rfl;by_cases c1:frm=0
  ·skip;repeat first|refine aa ?_|intro _|refine cc ?_
   exact KX.d7 ai ag ⟨by rw[aF (show ¬fg _ ⟨frm,to,item,mn,parts⟩ from fun q=>(e.1 q).1 c1)];rfl,rfl⟩
  by_cases c2:to=0
  ·skip;repeat first|refine aa ?_|intro _|refine cc ?_
   exact KX.d7 ai ag ⟨by rw[aF (show ¬fg _ ⟨frm,to,item,mn,parts⟩ from fun q=>(e.1 q).2.1 c2)];rfl,rfl⟩
  repeat first|refine aa ?_|intro _|refine cc ?_
  exact KX.d7 ai ag ⟨by rw[fQ (e.trans ⟨fun q=>q.2.2,fun q=>⟨c1,c2,q⟩⟩),←fQ hlen];rfl,rfl⟩
 by_cases k8:k=8
 ·subst k8;have e:fg 8 ⟨frm,to,item,mn,parts⟩↔frm≠0∧to≠0∧parts.length=0:=Iff.rfl;by_cases c1:frm=0
  ·skip;repeat first|refine aa ?_|intro _|refine cc ?_
   exact KX.d7 ai ag ⟨by rw[aF (show ¬fg _ ⟨frm,to,item,mn,parts⟩ from fun q=>(e.1 q).1 c1)];rfl,rfl⟩
  by_cases c2:to=0
  ·skip;repeat first|refine aa ?_|intro _|refine cc ?_
   exact KX.d7 ai ag ⟨by rw[aF (show ¬fg _ ⟨frm,to,item,mn,parts⟩ from fun q=>(e.1 q).2.1 c2)];rfl,rfl⟩
  repeat first|refine aa ?_|intro _|refine cc ?_
  exact KX.d7 ai ag ⟨by rw[fQ (e.trans ⟨fun q=>q.2.2,fun q=>⟨c1,c2,q⟩⟩),←fQ hlen];rfl,rfl⟩
 by_cases k5:k=5
 ·subst k5;have e:fg 5 ⟨frm,to,item,mn,parts⟩↔frm=0∧gj parts mn:=Iff.rfl;by_cases c1:frm=0
  ·skip;repeat first|refine aa ?_|intro _|refine cc ?_
   refine GO.ef (Ef.d7 (jZ pad parts.length pcap parts mn rfl hm) rfl) ae ?_;rintro _ _⟨rfl,rfl⟩;repeat first|refine aa ?_|intro _|refine cc ?_
   exact KX.d7 ai ag ⟨by rw[fQ (e.trans ⟨fun q=>q.2,fun q=>⟨c1,q⟩⟩)];rfl,rfl⟩
  ·skip;repeat first|refine aa ?_|intro _|refine cc ?_
   exact KX.d7 ai ag ⟨by rw[aF (show ¬fg _ ⟨frm,to,item,mn,parts⟩ from fun q=>c1 (e.1 q).1)];rfl,rfl⟩
 by_cases k7:k=7
 ·subst k7;have e:fg 7 ⟨frm,to,item,mn,parts⟩↔frm≠0∧gj parts mn:=Iff.rfl;by_cases c1:frm=0
  ·skip;repeat first|refine aa ?_|intro _|refine cc ?_
   exact KX.d7 ai ag ⟨by rw[aF (show ¬fg _ ⟨frm,to,item,mn,parts⟩ from fun q=>(e.1 q).1 c1)];rfl,rfl⟩
  ·skip;repeat first|refine aa ?_|intro _|refine cc ?_
   refine GO.ef (Ef.d7 (jZ pad parts.length pcap parts mn rfl hm) rfl) ae ?_;rintro _ _⟨rfl,rfl⟩;repeat first|refine aa ?_|intro _|refine cc ?_
   exact KX.d7 ai ag ⟨by rw[fQ (e.trans ⟨fun q=>q.2,fun q=>⟨c1,q⟩⟩)];rfl,rfl⟩
 by_cases k9:k=9
 ·subst k9;have e:fg 9 ⟨frm,to,item,mn,parts⟩↔to≠0∧gj parts mn:=Iff.rfl;by_cases c1:to=0
  ·skip;repeat first|refine aa ?_|intro _|refine cc ?_
   exact KX.d7 ai ag ⟨by rw[aF (show ¬fg _ ⟨frm,to,item,mn,parts⟩ from fun q=>(e.1 q).1 c1)];rfl,rfl⟩
  ·skip;repeat first|refine aa ?_|intro _|refine cc ?_
   refine GO.ef (Ef.d7 (jZ pad parts.length pcap parts mn rfl hm) rfl) ae ?_;rintro _ _⟨rfl,rfl⟩;repeat first|refine aa ?_|intro _|refine cc ?_
   exact KX.d7 ai ag ⟨by rw[fQ (e.trans ⟨fun q=>q.2,fun q=>⟨c1,q⟩⟩)];rfl,rfl⟩
 have e:fg k ⟨frm,to,item,mn,parts⟩↔parts.length=0:=by
  unfold fg;rw[if_neg k0,if_neg ac,if_neg ac,if_neg k5,if_neg k7,if_neg k9]
 repeat first|refine aa ?_|intro _|refine cc ?_
 exact KX.d7 ai ag ⟨by rw[fQ e,←fQ hlen];rfl,rfl⟩
end Go.Proofs.YtommnllbflbdmaaGreatDoor
namespace Go.V
section gf
variable {P:Program}{N:Nat}{ops:Array Oper}{done done' : List Nat}{n:Nat}{pend:List PE}{env env' : Env}{L L' : LH}{K:Post}
theorem GF.conseq(hd:(dS ops.size done == dS ops.size done')=true)(he:EnvSub env env')(hL:Ent L L')(h:GF P N ops done' n pend env' L' K):GF P N ops done n pend env L K:=by
 have e:=eq_of_beq hd;intro hK hs hcl θ Y a w S i hpo hpw;rw[e] at hcl ⊢;exact h hK hs hcl θ Y a w S (i.less he hL) hpo hpw
theorem GF.ent(hL:Ent L L')(h:GF P N ops done n pend env L' K):GF P N ops done n pend env L K:=fun hK hs hcl θ Y a w S i hpo hpw=>h hK hs hcl θ Y a w S (i.less (EnvSub.refl _) hL) hpo hpw
end gf
end Go.V
namespace Go.Proofs.YtommnllbflbdmaaGreatDoor
section
open Go.V
attribute [local irreducible] G GO GP GPW GPK Ev Ef EfR Ent CB GB V.Enters
theorem oy{L:LH}(t:Int):Tri ah 235 #[ab t] L (fun v L'=>v=.bool (dB (io t))∧L' = L):=by
 refine Tri.body (args:=[ab t]) 9 Ic Tryz.func235 rfl rfl rfl (by simp) ?_;by_cases h1:1≤t
 ·repeat first|refine aa ?_|intro
  exact KX.d7 ai (Ent.refl _) ⟨by rw[fQ (show io t↔t≤1048576 from⟨fun q=>q.2,fun q=>⟨h1,q⟩⟩)];rfl,rfl⟩
 ·repeat first|refine aa ?_|intro
  exact KX.d7 ai (Ent.refl _) ⟨by rw[aF (show ¬io t from fun q=>h1 q.1)];rfl,rfl⟩
instance (s:StM):Decidable (je s):=by unfold je;infer_instance
theorem pV{L:LH}(s:StV)[hr:Rds L s.mad MvV aM 5 s.moves](hn:∀m∈s.moves,0≤m.m.n)(hl:s.moves.length≤1000000) :
  Tri ah 150 #[.agg (aJ s).toArray] L (fun v L'=>v=.bool (dB (je s.m))∧L' = L):=by
 have hml:s.m.moves.length=s.moves.length:=by show(s.moves.map MvV.m).length=_;rw[aG]
 refine Tri.body (args:=[.agg (aJ s).toArray]) 59 Jy Tryz.func150 rfl rfl rfl (by simp) ?_;simp only[aJ];by_cases c1:s.rule = -1
 case neg =>
  rw[aF (show ¬je s.m from fun q=>c1 q.1)];repeat first|refine aa ?_|intro
  exact KX.d7 ai ag ⟨rfl,rfl⟩
 repeat first|refine aa ?_|intro
 refine GO.ef (Ef.d7 (oy s.times) rfl) ae ?_;rintro _ _⟨rfl,rfl⟩;by_cases c2:io s.times
 case neg =>
  rw[aF c2,aF (show ¬je s.m from fun q=>c2 q.2.1)];repeat first|refine aa ?_|intro
  exact KX.d7 ai ag ⟨rfl,rfl⟩
 rw[aU c2];by_cases c3:s.moves.length=2
 case neg =>
  rw[aF (show ¬je s.m from fun q=>c3 (hml.symm.trans q.2.2.1))];repeat first|refine aa ?_|intro
  exact KX.d7 ai ag ⟨rfl,rfl⟩
 have e0:s.m.moves[0]! = s.moves[0]!.m:=eo _ (show 0<s.moves.length by omega);have e1:s.m.moves[1]! = s.moves[1]!.m:=eo _ (show 1<s.moves.length by omega);have n0:=hn _ (aI (show 0<s.moves.length by omega));have n1:=hn _ (aI (show 1<s.moves.length by omega))
 have e:je s.m↔s.moves[0]!.m.to=0∧s.moves[1]!.m.frm=0∧s.moves[1]!.m.to=s.moves[0]!.m.frm∧s.moves[0]!.m.n % s.times=0∧s.moves[1]!.m.n % s.times=0:=by
  unfold je;rw[e0,e1];exact⟨fun q=>q.2.2.2,fun q=>⟨c1,c2,hml.trans c3,q⟩⟩
 unfold io at c2;have t0:(0:Int).toNat=0:=rfl;have t1:(1:Int).toNat=1:=rfl;have i0:(0:Int).toNat<s.moves.length:=ac;have i1:(1:Int).toNat<s.moves.length:=ac;rw[←t0] at e n0;rw[←t1] at e n1;rw[fQ e];clear e0 e1 e;repeat first|((fail_if_success (with_reducible refine G.atS 3 ?_));(with_reducible apply G.seq))|refine bB ?_|intro
 rename_i b1;refine G.d9 (α:=Nat×Nat) (fun _=>True) (fun g=>[(1,au b1),(3,.pointer (some ⟨g.1,0,none⟩)),(4,.pointer (some ⟨g.2,0,none⟩))]) (fun g=>obj g.1 tMv (aM s.moves[(0:Int).toNat]!)::obj g.2 tMv (aM s.moves[(1:Int).toNat]!)::obj b1 bh [ab s.id,ab s.kind,ab s.actor,ab s.tick,ab s.rule,ab s.times,.slice s.mad s.moves.length s.mcap]::L) ?_ ?_
 ·refine G.f8 mixed ap ?_;refine GF.evP (i:=0) rfl ap (Ev.fieldAddr rfl) ae ?_;refine GF.evL (i:=1) rfl ap (Ev.d8 rfl rfl) ae ?_;refine GF.evL (i:=2) rfl ap (Ev.indexAddr rfl rfl ac ac ac) ae ?_;refine GF.evL (i:=3) rfl ap (Ev.e7 rfl ac) ae ?_;refine GF.evP (i:=4) rfl ap (Ev.fieldAddr rfl) ae ?_;refine GF.evL (i:=5) rfl ap (Ev.d8 rfl rfl) ae ?_;refine GF.evL (i:=6) rfl ap (Ev.indexAddr rfl rfl ac ac ac) ae ?_;refine GF.evL (i:=7) rfl ap (Ev.e7 rfl ac) ae ?_;refine GF.d7 8 9 ap ?_ ?_
  ·refine GE.ef rfl Ef.alloc ae ?_;rintro _ _⟨b3,rfl,rfl⟩;refine⟨(by intro pe hp;simp only[bj,aT,or_false] at hp;rcases hp with rfl|rfl|rfl|rfl|rfl|rfl<;>first|exact Ev.d8 rfl rfl|exact Ev.indexAddr rfl rfl ac ac ac|exact Ev.e7 rfl ac),?_⟩;refine GF.plan [.ef 9,.ef 10,.ef 11] ap rfl ?_;repeat first|refine aa ?_|intro
   exact⟨(b3,_),trivial,aj,by exact ag⟩
  ·refine GE.ef rfl Ef.alloc ae ?_;rintro _ _⟨b4,rfl,rfl⟩;refine⟨(by intro pe hp;simp only[bj,aT,or_false] at hp;rcases hp with rfl|rfl|rfl|rfl|rfl|rfl<;>first|exact Ev.d8 rfl rfl|exact Ev.indexAddr rfl rfl ac ac ac|exact Ev.e7 rfl ac),?_⟩;refine GF.plan [.ef 8,.ef 10,.ef 11] ap rfl ?_;repeat first|refine aa ?_|intro
   exact⟨(_,b4),trivial,aj,by exact ag⟩
 rintro⟨b3,b4⟩ _;generalize s.moves[(0:Int).toNat]! = m0 at *;generalize s.moves[(1:Int).toNat]! = m1 at *;simp only[aM];by_cases d1:m0.m.to=0
 case neg =>
  repeat first|refine aa ?_|intro
  exact KX.d7 ai ag ⟨by rw[aF (fun h=>d1 h.1)];rfl,rfl⟩
 by_cases d2:m1.m.frm=0
 case neg =>
  repeat first|refine aa ?_|intro
  exact KX.d7 ai ag ⟨by rw[aF (fun h=>d2 h.2.1)];rfl,rfl⟩
 by_cases d3:m1.m.to=m0.m.frm
 case neg =>
  repeat first|refine aa ?_|intro
  exact KX.d7 ai ag ⟨by rw[aF (fun h=>d3 h.2.2.1)];rfl,rfl⟩
 by_cases d4:m0.m.n % s.times=0
 case neg =>
  repeat first|refine aa ?_|intro
  exact KX.d7 ai ag ⟨by rw[aF (fun h=>d4 h.2.2.2.1)];rfl,rfl⟩
 repeat first|refine aa ?_|intro
 refine KX.d7 ai ag ⟨?_,rfl⟩;by_cases d5:m1.m.n % s.times=0
 ·rw[aU d5,aU ⟨d1,d2,d3,d4,d5⟩];rfl
 ·rw[aF d5,aF (fun h=>d5 h.2.2.2.2)];rfl
def mtP(pa po:MvM→Int)(times:Int)(ms:List MvV)(am:List (Int×Int)):Prop:=∀i:Nat,i<ms.length→po ms[i]!.m=0∧pa ms[i]!.m=pa ms[0]!.m∧ms[i]!.m.item=am[i]!.1∧ms[i]!.m.n=am[i]!.2*times
noncomputable instance (pa po t ms am):Decidable (mtP pa po t ms am):=Classical.propDecidable _
def AskM(f:FuncId)(p:MvM→Int):Prop:=∀(m:MvV) (L:LH),Tri ah f #[.agg (aM m).toArray] L (fun v L'=>v=ab (p m.m)∧L' = L)
theorem DP:AskM 237 (fun m=>m.frm):=by
 intro m L;refine Tri.body (args:=[.agg (aM m).toArray]) 5 Ia Tryz.func237 rfl rfl rfl (by simp) ?_;repeat first|refine aa ?_|intro
 exact KX.d7 ai ag ⟨rfl,rfl⟩
theorem Fk:AskM 238 (fun m=>m.to):=by
 intro m L;refine Tri.body (args:=[.agg (aM m).toArray]) 5 HZ Tryz.func238 rfl rfl rfl (by simp) ?_;repeat first|refine aa ?_|intro
 exact KX.d7 ai ag ⟨rfl,rfl⟩
abbrev yG:List Stp:=[.ev 0,.ev 1,.ef 2,.ev 3,.ev 4,.ev 5,.ev 6,.ev 8,.ev 9,.ev 10,.ev 11,.ef 7,.ef 12,.ev 13,.ev 14,.ev 15,.ev 16,.ev 17,.ev 18,.ev 19,.ev 20,.ev 21,.ev 22,.ev 23,.ev 24,.ev 25,.ev 26,.ev 27,.ev 28,.ev 29,.ev 30,.ev 31,.ev 32,.ev 33,.ev 34,.ev 35,.ev 36,.ev 37]
theorem ew{φ ψ:Prop}(k:ψ)(h:Hid ψ→φ:=by intro k;(with_reducible apply G.d8);first|refine G.d7 (N:=58) (id:=4) yG mixed ap (Hid.out k)):φ:=h ⟨k⟩
theorem oR{L:LH}(b:Nat)(s:StV)(ht:io s.times)(fa fo:FuncId)(pa po:MvM→Int)(ha:AskM fa pa)(ho:AskM fo po)(ad:OA)(n c:Nat)(ms:List MvV)[hr:Rds L ad MvV aM 5 ms](a2:OA)(n2 c2:Nat)(am:List (Int×Int))[hr2:Rds L a2 (Int×Int) bL 2 am](hn:n=ms.length)(hn2:n2=am.length)(hl:ms.length=am.length)(hl6:am.length≤64)(hb:AmB am) :
  Tri ah 236 #[.slice ad n c,.slice a2 n2 c2,.func (.func fa) #[] #[],.func (.func fo) #[] #[],au b] (obj b bh (aJ s)::L) (fun v L'=>v=.bool (dB (mtP pa po s.times ms am))∧L' = obj b bh (aJ s)::L):=by
 subst hn hn2;obtain⟨hT1,hT2⟩:=ht;refine Tri.body (args:=[.slice ad ms.length c,.slice a2 am.length c2,.func (.func fa) #[] #[],.func (.func fo) #[] #[],au b]) 58 Ib Tryz.func236 rfl rfl rfl (by simp) ?_;repeat first|refine aa ?_|intro _|refine ew ?_
 refine G.loop (α:=Nat) (fun i=>i≤ms.length∧∀j:Nat,j<i→po ms[j]!.m=0∧pa ms[j]!.m=pa ms[0]!.m∧ms[j]!.m.item=am[j]!.1∧ms[j]!.m.n=am[j]!.2*s.times) (fun i=>[(0,.slice ad ms.length c),(1,.slice a2 am.length c2),(2,.func (.func fa) #[] #[]),(3,.func (.func fo) #[] #[]),(4,au b),(12,.slice ad ms.length c),(13,ab ms.length),(14,ab (i:Int))]) (fun _=>obj b bh (aJ s)::L) (fun i=>ms.length - i) 0 ⟨ao _,fun j h=>absurd h (cd j)⟩ aj (Ent.refl _) ?_;rintro i ⟨hi,hdo⟩;by_cases hlt:i<ms.length
 case neg =>
  repeat first|refine aa ?_|intro _|refine ew ?_
  exact KX.d7 ai ag ⟨by rw[aU (show mtP pa po s.times ms am from fun j hj=>hdo j ac)];rfl,rfl⟩
 have hii:(i:Int).toNat=i:=aA i;have hno:∀{p:Prop},¬p→(po ms[i]!.m=0∧pa ms[i]!.m=pa ms[0]!.m∧ms[i]!.m.item=am[i]!.1∧ms[i]!.m.n=am[i]!.2*s.times→p)→dB (mtP pa po s.times ms am)=false:=fun h q=>aF (fun r=>h (q (r i hlt)));obtain⟨ha1,ha2⟩:=hb _ (aI (show i<am.length by omega));have hmu:0≤am[i]!.2*s.times∧am[i]!.2*s.times≤1099511627776*1048576:=⟨dC ha1 ac,eN ha2 hT2 ac ac⟩;have t0:ms[0]! = ms[(0:Int).toNat]!:=rfl;rw[t0] at hno;rw[←hii] at hmu hno;obtain⟨hmu1,hmu2⟩:=hmu;have hlt' : (i:Int).toNat<ms.length:=ac;have hlt2:(i:Int).toNat<am.length:=ac;repeat first|refine aa ?_|intro _|refine ew ?_
 refine GPW.ef (Ef.d9 rfl rfl (ho ms[(i:Int).toNat]! _)) ae ?_;rintro _ _⟨rfl,rfl⟩;by_cases c1:po ms[(i:Int).toNat]!.m=0
 case neg =>
  repeat first|refine aa ?_|intro _|refine ew ?_
  exact KX.d7 ai ag ⟨by rw[hno c1 (fun q=>q.1)];rfl,rfl⟩
 repeat first|refine aa ?_|intro _|refine ew ?_
 refine GPW.ef (Ef.d9 rfl rfl (ha ms[(i:Int).toNat]! _)) ae ?_;rintro _ _⟨rfl,rfl⟩;repeat first|refine aa ?_|intro _|refine ew ?_
 refine GPW.ef (Ef.d9 rfl rfl (ha ms[(0:Int).toNat]! _)) ae ?_;rintro _ _⟨rfl,rfl⟩;by_cases c2:pa ms[(i:Int).toNat]!.m=pa ms[(0:Int).toNat]!.m
 case neg =>
  repeat first|refine aa ?_|intro _|refine ew ?_
  exact KX.d7 ai ag ⟨by rw[hno c2 (fun q=>q.2.1)];rfl,rfl⟩
 by_cases c3:ms[(i:Int).toNat]!.m.item=am[(i:Int).toNat]!.1
 case neg =>
  repeat first|refine aa ?_|intro _|refine ew ?_
  exact KX.d7 ai ag ⟨by rw[hno c3 (fun q=>q.2.2.1)];rfl,rfl⟩
 by_cases c4:ms[(i:Int).toNat]!.m.n=am[(i:Int).toNat]!.2*s.times
 case neg =>
  repeat first|refine aa ?_|intro _|refine ew ?_
  exact KX.d7 ai ag ⟨by rw[hno c4 (fun q=>q.2.2.2)];rfl,rfl⟩
 repeat first|refine aa ?_|intro _|refine ew ?_
 refine⟨i+1,⟨ac,fun j hj=>?_⟩,ac,?_,by exact ag⟩
 ·rcases cg j i with h|h
  ·exact hdo j h
  ·obtain rfl:j=i:=ac;rw[t0];rw[hii] at c1 c2 c3 c4;exact⟨c1,c2,c3,c4⟩
 ·rw[aP i];exact aj
abbrev vU:List Stp:=[.ev 0,.ev 1,.ev 2,.ev 3,.ev 4,.ev 5,.ev 6,.ev 7,.ev 8,.ev 9,.ev 10,.ef 11,.ev 12,.ev 13,.ev 14,.ev 15,.ev 16,.ev 17,.ev 18,.ev 19,.ev 20,.ev 21,.ev 22,.ef 23,.ev 24,.ev 25]
theorem cC{φ ψ:Prop}(k:ψ)(h:Hid ψ→φ:=by intro k;(with_reducible apply G.d8);first|refine G.d7 (N:=97) (id:=17) vU mixed ap (Hid.out k)):φ:=h ⟨k⟩
theorem uM{L R:LH}{b:Nat}{sh:Int}{x:BkX}[hp:PickObj L b tBk (bJ sh x) R](s:StV)[hrm:Rds L s.mad MvV aM 5 s.moves](hc:x.cat.m.Ok)(hB:x.cat.B)(hms:s.moves.length≤64)(hcap:s.moves.length≤s.mcap)(hI:I64 s.rule) :
  Tri ah 149 #[au b,.agg (aJ s).toArray] (catP x.cat::L) (fun v L'=>v=.bool (dB (fw x.cat.m.rules s.rule s.times (s.moves.map MvV.m)))∧L' = catP x.cat::L):=by
 obtain⟨hI1,hI2⟩:=hI;have hrl:=hB.rules;have hlen:x.cat.m.rules.length=x.cat.rules.length:=by simp[CatV.m]
 refine Tri.body (args:=[au b,.agg (aJ s).toArray]) 97 Jz Tryz.func149 rfl rfl rfl (by simp) ?_;repeat first|((fail_if_success (with_reducible refine G.e7 2 ?_));(with_reducible apply G.seq))|refine bB ?_|intro _|refine cC ?_
 rename_i b3;refine G.d9 (α:=Unit) (fun _=>True) (fun _=>[(0,au b),(3,au b3),(5,ab (aN s.rule))]) (fun _=>obj b3 bh (aJ s)::catP x.cat::L) ?_ ?_
 ·by_cases hf:s.rule < -1
  ·repeat first|refine aa ?_|intro _|refine cC ?_
   refine⟨(),trivial,?_,by exact ag⟩;unfold aN;rw[if_pos hf];exact aj
  ·repeat first|refine aa ?_|intro _|refine cC ?_
   refine⟨(),trivial,?_,by exact ag⟩;unfold aN;rw[if_neg hf];exact aj
 rintro _ _;by_cases h1:0≤aN s.rule
 case neg =>
  repeat first|refine aa ?_|intro _|refine cC ?_
  exact KX.d7 ai ag ⟨by rw[aF (fun h=>h1 h.1.1)];rfl,rfl⟩
 by_cases h2:aN s.rule<x.cat.rules.length
 case neg =>
  repeat first|refine aa ?_|intro _|refine cC ?_
  exact KX.d7 ai ag ⟨by rw[aF (fun h=>h2 (by have:=h.1.2;omega))];rfl,rfl⟩
 repeat first|refine aa ?_|intro _|refine cC ?_
 refine GO.ef (Ef.d7 (oy s.times) rfl) ae ?_;rintro _ _⟨rfl,rfl⟩;by_cases h3:io s.times
 case neg =>
  rw[aF h3];repeat first|refine aa ?_|intro _|refine cC ?_
  exact KX.d7 ai ag ⟨by rw[aF (fun h=>h3 h.2.1)];rfl,rfl⟩
 rw[aU h3];have hix:(aN s.rule).toNat<x.cat.rules.length:=ac;have hmem:x.cat.rules[(aN s.rule).toNat]!∈x.cat.rules:=aI hix;have hrm' : x.cat.m.rules[(aN s.rule).toNat]! = x.cat.rules[(aN s.rule).toNat]!.m:=eo RuV.m hix;have hmm:x.cat.rules[(aN s.rule).toNat]!.m∈x.cat.m.rules:=alStd0List_mem_map_of_mem hmem;refine GO.ent (Ent.at (A:=catP x.cat) catOpenR) ?_;refine GO.ent (Ent.at (A:=allP ruP x.cat.rules) ((Ent.d9 (f:=ruP) hmem).trans ruOpen)) ?_;have hru:=hB.ru _ hmem;have hct:=hc.take _ hmm;have hcg:=hc.give _ hmm;have hcb:=hc.back _ hmm
 have hcr:fw x.cat.m.rules s.rule s.times (s.moves.map MvV.m)↔(x.cat.rules[(aN s.rule).toNat]!.spawn=false∧¬(s.rule < -1∧x.cat.rules[(aN s.rule).toNat]!.chance ≥ x.cat.rules[(aN s.rule).toNat]!.of_)∧s.moves.length=x.cat.rules[(aN s.rule).toNat]!.take.l.length+(x.cat.rules[(aN s.rule).toNat]!.given s.rule).l.length ∧
   (∀i:Nat,i<x.cat.rules[(aN s.rule).toNat]!.take.l.length→ky (s.moves.map MvV.m) s.times x.cat.rules[(aN s.rule).toNat]!.take.l[i]! (s.moves.map MvV.m)[i]!) ∧
   (∀i:Nat,i<(x.cat.rules[(aN s.rule).toNat]!.given s.rule).l.length→kD ((s.moves.map MvV.m)[x.cat.rules[(aN s.rule).toNat]!.take.l.length]!).to s.times (x.cat.rules[(aN s.rule).toNat]!.given s.rule).l[i]! (s.moves.map MvV.m)[x.cat.rules[(aN s.rule).toNat]!.take.l.length+i]!)):=by
  unfold fw;rw[hrm',qV,aG];exact⟨fun h=>h.2.2,fun h=>⟨⟨h1,ac⟩,h3,h⟩⟩
 obtain⟨hr1,hr2,hr3⟩:=hru;simp only[AmB,RuV.m] at hct hcg hcb;have hgl:(x.cat.rules[(aN s.rule).toNat]!.given s.rule).l.length≤64:=by unfold RuV.given;split<;>assumption
 have hgb:∀a∈(x.cat.rules[(aN s.rule).toNat]!.given s.rule).l,0≤a.2∧a.2≤1099511627776:=by unfold RuV.given;split<;>assumption
 refine GO.ent (L':=amS (x.cat.rules[(aN s.rule).toNat]!.given s.rule)::amS x.cat.rules[(aN s.rule).toNat]!.take::isl bQ 9 x.cat.rad x.cat.rules::catP x.cat::obj b3 bh (aJ s)::L) ?_ ?_
 ·unfold RuV.given;split
  ·exact ag
  ·exact ag
 repeat first|((fail_if_success (with_reducible refine G.e7 8 ?_));(with_reducible apply G.seq))|refine bB ?_|intro _|refine cC ?_
 rename_i b6;have hg1:∀h:s.rule < -1,x.cat.rules[(aN s.rule).toNat]!.given s.rule=x.cat.rules[(aN s.rule).toNat]!.back:=fun h=>if_pos h;have hg2:∀h:¬s.rule < -1,x.cat.rules[(aN s.rule).toNat]!.given s.rule=x.cat.rules[(aN s.rule).toNat]!.give:=fun h=>if_neg h;clear hrm' hmem hmm hcg hcb hr2 hr3 hix;generalize x.cat.rules[(aN s.rule).toNat]! = r at *;generalize r.given s.rule=gv at *;by_cases h5:s.rule < -1∧r.chance ≥ r.of_
 case pos =>
  obtain⟨h51,h52⟩:=h5;repeat first|refine aa ?_|intro _|refine cC ?_
  exact KX.d7 ai ag ⟨by rw[aF (fun h=>(hcr.1 h).2.1 ⟨h51,h52⟩)];rfl,rfl⟩
 refine G.d9 (α:=Unit) (fun _=>True) (fun _=>[(0,au b),(3,au b3),(6,au b6),(7,.slice gv.ad gv.l.length gv.cap)]) (fun _=>obj b6 tRu (bQ r)::obj b3 bh (aJ s)::amS gv::amS r.take::catP x.cat::L) ?_ ?_
 ·by_cases hf:s.rule < -1
  ·have h52:¬r.chance ≥ r.of_:=fun h=>h5 ⟨hf,h⟩;rw[hg1 hf];repeat first|refine aa ?_|intro _|refine cC ?_
   exact⟨(),trivial,aj,by exact ag⟩
  ·rw[hg2 hf];repeat first|refine aa ?_|intro _|refine cC ?_
   exact⟨(),trivial,aj,by exact ag⟩
 rintro _ _;clear hg1 hg2;cases h4:r.spawn with
 | true =>
  repeat first|refine aa ?_|intro _|refine cC ?_
  rw[h4];repeat first|refine aa ?_|intro _|refine cC ?_
  exact KX.d7 ai ag ⟨by rw[aF (fun h=>by have:=(hcr.1 h).1;rw[h4] at this;cases this)];rfl,rfl⟩
 | false =>
 by_cases h6:s.moves.length=r.take.l.length+gv.l.length
 case neg =>
  repeat first|refine aa ?_|intro _|refine cC ?_
  rw[h4];repeat first|refine aa ?_|intro _|refine cC ?_
  exact KX.d7 ai ag ⟨by rw[aF (fun h=>h6 (hcr.1 h).2.2.1)];rfl,rfl⟩
 have htl:r.take.l.length≤s.moves.length:=ac
 have hm1:mtP (fun m=>m.frm) (fun m=>m.to) s.times (s.moves.take r.take.l.length) r.take.l↔∀i:Nat,i<r.take.l.length→ky (s.moves.map MvV.m) s.times r.take.l[i]! (s.moves.map MvV.m)[i]!:=by
  have e:∀i,i<r.take.l.length→(s.moves.take r.take.l.length)[i]! = s.moves[i]!:=fun i hi=>by rw[getElem!_of (by rw[aY];omega),getElem!_of ac,dW]
  unfold mtP ky;rw[aY,Nat.min_eq_left htl];constructor
  ·intro h i hi;obtain⟨g1,g2,g3,g4⟩:=h i hi;rw[e i hi] at g1 g2 g3 g4;rw[e 0 ac] at g2;rw[jl _ ac,jl _ ac];exact⟨g2,g1,g3,g4⟩
  ·intro h i hi;obtain⟨g1,g2,g3,g4⟩:=h i hi;rw[jl _ ac] at g1 g2 g3 g4;rw[jl _ ac] at g1;rw[e i hi,e 0 ac];exact⟨g2,g1,g3,g4⟩
 have hm2:mtP (fun m=>m.to) (fun m=>m.frm) s.times (s.moves.drop r.take.l.length) gv.l↔∀i:Nat,i<gv.l.length→kD ((s.moves.map MvV.m)[r.take.l.length]!).to s.times gv.l[i]! (s.moves.map MvV.m)[r.take.l.length+i]!:=by
  have e:∀i,i<gv.l.length→(s.moves.drop r.take.l.length)[i]! = s.moves[r.take.l.length+i]!:=fun i hi=>by rw[getElem!_of (by rw[bR];omega),getElem!_of ac,eG]
  unfold mtP kD;rw[bR,show s.moves.length - r.take.l.length=gv.l.length by omega];constructor
  ·intro h i hi;obtain⟨g1,g2,g3,g4⟩:=h i hi;rw[e i hi] at g1 g2 g3 g4;rw[e 0 ac] at g2;rw[jl _ ac,jl _ ac];exact⟨g1,g2,g3,g4⟩
  ·intro h i hi;obtain⟨g1,g2,g3,g4⟩:=h i hi;rw[jl _ ac] at g1 g2 g3 g4;rw[jl _ ac] at g2;rw[e i hi,e 0 ac];exact⟨g1,g2,g3,g4⟩
 haveI hrt:=Rds.take hrm r.take.l.length
 haveI hrd:=Rds.drop hrm hcap r.take.l.length
 repeat first|refine aa ?_|intro _|refine cC ?_
 rw[h4];repeat first|refine aa ?_|intro _|refine cC ?_
 refine GPW.ent (L':=obj b3 bh (aJ s)::obj b6 tRu (bQ r)::amS gv::amS r.take::catP x.cat::L) ag ?_;rw[show((Int.toNat (r.take.l.length:Int)))=r.take.l.length from aA _];refine GPW.ef (Ef.d9 rfl rfl (oR (L:=obj b6 tRu (bQ r)::amS gv::amS r.take::catP x.cat::L) b3 s h3 237 238 (fun m=>m.frm) (fun m=>m.to) DP Fk s.mad r.take.l.length s.mcap (s.moves.take r.take.l.length) (hr:=inferInstance) r.take.ad r.take.l.length r.take.cap r.take.l (by rw[aY];omega) rfl (by rw[aY];omega) hr1 hct)) ae ?_;rintro _ _⟨rfl,rfl⟩;by_cases q1:mtP (fun m=>m.frm) (fun m=>m.to) s.times (s.moves.take r.take.l.length) r.take.l
 case neg =>
  rw[aF q1];repeat first|refine aa ?_|intro _|refine cC ?_
  exact KX.d7 ai ag ⟨by rw[aF (fun h=>q1 (hm1.2 (hcr.1 h).2.2.2.1))];rfl,rfl⟩
 rw[aU q1];repeat first|refine aa ?_|intro _|refine cC ?_
 rw[show((Int.toNat (r.take.l.length:Int)))=r.take.l.length from aA _];refine GPW.ef (Ef.d9 rfl rfl (oR (L:=obj b6 tRu (bQ r)::amS gv::amS r.take::catP x.cat::L) b3 s h3 238 237 (fun m=>m.to) (fun m=>m.frm) Fk DP (advA s.mad s.mcap 5 r.take.l.length) (s.moves.length - r.take.l.length) (s.mcap - r.take.l.length) (s.moves.drop r.take.l.length) (hr:=inferInstance) gv.ad gv.l.length gv.cap gv.l (by rw[bR]) rfl (by rw[bR];omega) hgl hgb)) ae ?_;rintro _ _⟨rfl,rfl⟩;repeat first|refine aa ?_|intro _|refine cC ?_
 refine KX.d7 ai ag ⟨?_,rfl⟩;by_cases q2:mtP (fun m=>m.to) (fun m=>m.frm) s.times (s.moves.drop r.take.l.length) gv.l
 ·rw[aU q2,aU (hcr.2 ⟨h4,h5,h6,hm1.1 q1,hm2.1 q2⟩)];rfl
 ·rw[aF q2,aF (fun h=>q2 (hm2.2 (hcr.1 h).2.2.2.2))];rfl
