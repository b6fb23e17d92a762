/- Lemmas. -/
import Derived.Test.YtommnllbflbdmaaGreatDoorAbj
set_option linter.all false
set_option maxHeartbeats 4000000
namespace Go.Proofs.YtommnllbflbdmaaGreatDoor
open Go.V
attribute [local irreducible] G GO GP GPW GPK Ev Ef EfR Ent CB GB V.Enters
def fO(k:Int)(m:MvM):Prop :=
 if k=0 then m.frm=0∧m.parts.length=0 else if k=1∨k=6 then m.to=0∧m.parts.length=0 else if k=2∨k=3∨k=8 then m.frm≠0∧m.to≠0∧m.parts.length=0
 else if k=5 then m.frm=0∧fY m.parts m.n else if k=7 then m.frm≠0∧fY m.parts m.n else if k=9 then m.to≠0∧fY m.parts m.n else m.parts.length=0
instance (k:Int)(m:MvM):Decidable (fO k m):=by unfold fO;infer_instance
def gh{p q:Prop}[Decidable p][Decidable q](h:p↔q):dB p=dB q:=by
 by_cases c:p
 ·rw[aS c,aS (h.1 c)]
 ·rw[aG c,aG (fun x=>c (h.2 x))]
abbrev AI:=ay5 []
def Va{φ ψ:Prop}(k:ψ)(h:Hid ψ→φ:=by intro k;(repeat (first|refine aa ?_|intro zzz|refine G.dr 85 1 AI ?_));(repeat revert zzz);exact Hid.out k):φ:=h ⟨k⟩
def Ex{L:LH}(k:Int)(m:MvV)[hr:Rds L m.pad Lot aj 3 m.m.parts](hm:m.m.parts.length≤9223372036854775807):Tri ai 148 #[ac k,aN (aM m)] L (fun v L'=>v=.bool (dB (fO k m.m))∧L' = L):=by
 obtain⟨⟨frm,to,item,mn,parts⟩,pad,pcap⟩:=m;dsimp only at hr hm ⊢;refine Tri.bd (args:=[ac k,aN (aM ⟨⟨frm,to,item,mn,parts⟩,pad,pcap⟩)]) ?_;simp only[aM];have a0:((parts.length:Int)=0)↔parts.length=0:=ab;by_cases k0:k=0
 ·subst k0;have e:fO 0 ⟨frm,to,item,mn,parts⟩↔frm=0∧parts.length=0:=Iff.rfl;by_cases c1:frm=0
  ·refine Va ?_;intros;exact KX.d7 al ae ⟨by rw[gh (e.trans ⟨fun q=>q.2,fun q=>⟨c1,q⟩⟩),←gh a0];rfl,rfl⟩
  ·skip;refine Va ?_;intros;exact KX.d7 al ae ⟨by rw[aG (show ¬fO _ ⟨frm,to,item,mn,parts⟩ from fun q=>c1 (e.1 q).1)];rfl,rfl⟩
 by_cases k1:k=1
 ·subst k1;have e:fO 1 ⟨frm,to,item,mn,parts⟩↔to=0∧parts.length=0:=Iff.rfl;by_cases c1:to=0
  ·refine Va ?_;intros;exact KX.d7 al ae ⟨by rw[gh (e.trans ⟨fun q=>q.2,fun q=>⟨c1,q⟩⟩),←gh a0];rfl,rfl⟩
  ·skip;refine Va ?_;intros;exact KX.d7 al ae ⟨by rw[aG (show ¬fO _ ⟨frm,to,item,mn,parts⟩ from fun q=>c1 (e.1 q).1)];rfl,rfl⟩
 by_cases k6:k=6
 ·subst k6;have e:fO 6 ⟨frm,to,item,mn,parts⟩↔to=0∧parts.length=0:=Iff.rfl;by_cases c1:to=0
  ·refine Va ?_;intros;exact KX.d7 al ae ⟨by rw[gh (e.trans ⟨fun q=>q.2,fun q=>⟨c1,q⟩⟩),←gh a0];rfl,rfl⟩
  ·skip;refine Va ?_;intros;exact KX.d7 al ae ⟨by rw[aG (show ¬fO _ ⟨frm,to,item,mn,parts⟩ from fun q=>c1 (e.1 q).1)];rfl,rfl⟩
 by_cases k2:k=2
 ·subst k2;have e:fO 2 ⟨frm,to,item,mn,parts⟩↔frm≠0∧to≠0∧parts.length=0:=Iff.rfl;by_cases c1:frm=0
  ·skip;refine Va ?_;intros;exact KX.d7 al ae ⟨by rw[aG (show ¬fO _ ⟨frm,to,item,mn,parts⟩ from fun q=>(e.1 q).1 c1)];rfl,rfl⟩
  by_cases c2:to=0
  ·skip;refine Va ?_;intros;exact KX.d7 al ae ⟨by rw[aG (show ¬fO _ ⟨frm,to,item,mn,parts⟩ from fun q=>(e.1 q).2.1 c2)];rfl,rfl⟩
  refine Va ?_;intros;exact KX.d7 al ae ⟨by rw[gh (e.trans ⟨fun q=>q.2.2,fun q=>⟨c1,c2,q⟩⟩),←gh a0];rfl,rfl⟩
 by_cases k3:k=3
 ·subst k3;have e:fO 3 ⟨frm,to,item,mn,parts⟩↔frm≠0∧to≠0∧parts.length=0:=Iff.rfl;by_cases c1:frm=0
  ·skip;refine Va ?_;intros;exact KX.d7 al ae ⟨by rw[aG (show ¬fO _ ⟨frm,to,item,mn,parts⟩ from fun q=>(e.1 q).1 c1)];rfl,rfl⟩
  by_cases c2:to=0
  ·skip;refine Va ?_;intros;exact KX.d7 al ae ⟨by rw[aG (show ¬fO _ ⟨frm,to,item,mn,parts⟩ from fun q=>(e.1 q).2.1 c2)];rfl,rfl⟩
  refine Va ?_;intros;exact KX.d7 al ae ⟨by rw[gh (e.trans ⟨fun q=>q.2.2,fun q=>⟨c1,c2,q⟩⟩),←gh a0];rfl,rfl⟩
 by_cases k8:k=8
 ·subst k8;have e:fO 8 ⟨frm,to,item,mn,parts⟩↔frm≠0∧to≠0∧parts.length=0:=Iff.rfl;by_cases c1:frm=0
  ·skip;refine Va ?_;intros;exact KX.d7 al ae ⟨by rw[aG (show ¬fO _ ⟨frm,to,item,mn,parts⟩ from fun q=>(e.1 q).1 c1)];rfl,rfl⟩
  by_cases c2:to=0
  ·skip;refine Va ?_;intros;exact KX.d7 al ae ⟨by rw[aG (show ¬fO _ ⟨frm,to,item,mn,parts⟩ from fun q=>(e.1 q).2.1 c2)];rfl,rfl⟩
  refine Va ?_;intros;exact KX.d7 al ae ⟨by rw[gh (e.trans ⟨fun q=>q.2.2,fun q=>⟨c1,c2,q⟩⟩),←gh a0];rfl,rfl⟩
 by_cases k5:k=5
 ·subst k5;have e:fO 5 ⟨frm,to,item,mn,parts⟩↔frm=0∧fY parts mn:=Iff.rfl;by_cases c1:frm=0
  ·skip;refine Va ?_;intros;refine GO.cr (kM pad parts.length pcap parts mn rfl hm) ?_;refine Va ?_;intros;exact KX.d7 al ae ⟨by rw[gh (e.trans ⟨fun q=>q.2,fun q=>⟨c1,q⟩⟩)];rfl,rfl⟩
  ·skip;refine Va ?_;intros;exact KX.d7 al ae ⟨by rw[aG (show ¬fO _ ⟨frm,to,item,mn,parts⟩ from fun q=>c1 (e.1 q).1)];rfl,rfl⟩
 by_cases k7:k=7
 ·subst k7;have e:fO 7 ⟨frm,to,item,mn,parts⟩↔frm≠0∧fY parts mn:=Iff.rfl;by_cases c1:frm=0
  ·skip;refine Va ?_;intros;exact KX.d7 al ae ⟨by rw[aG (show ¬fO _ ⟨frm,to,item,mn,parts⟩ from fun q=>(e.1 q).1 c1)];rfl,rfl⟩
  ·skip;refine Va ?_;intros;refine GO.cr (kM pad parts.length pcap parts mn rfl hm) ?_;refine Va ?_;intros;exact KX.d7 al ae ⟨by rw[gh (e.trans ⟨fun q=>q.2,fun q=>⟨c1,q⟩⟩)];rfl,rfl⟩
 by_cases k9:k=9
 ·subst k9;have e:fO 9 ⟨frm,to,item,mn,parts⟩↔to≠0∧fY parts mn:=Iff.rfl;by_cases c1:to=0
  ·skip;refine Va ?_;intros;exact KX.d7 al ae ⟨by rw[aG (show ¬fO _ ⟨frm,to,item,mn,parts⟩ from fun q=>(e.1 q).1 c1)];rfl,rfl⟩
  ·skip;refine Va ?_;intros;refine GO.cr (kM pad parts.length pcap parts mn rfl hm) ?_;refine Va ?_;intros;exact KX.d7 al ae ⟨by rw[gh (e.trans ⟨fun q=>q.2,fun q=>⟨c1,q⟩⟩)];rfl,rfl⟩
 have e:fO k ⟨frm,to,item,mn,parts⟩↔parts.length=0:=by
  unfold fO;rw[if_neg k0,if_neg ab,if_neg ab,if_neg k5,if_neg k7,if_neg k9]
 refine Va ?_;intros;exact KX.d7 al ae ⟨by rw[gh e,←gh a0];rfl,rfl⟩
end Go.Proofs.YtommnllbflbdmaaGreatDoor
namespace Go.V
section gf
variable {P:Program}{N:Nat}{ops:Array Oper}{done done' : List Nat}{n:Nat}{pend:List PE}{env env' : Env}{L L' : LH}{K:Post}
def GF.conseq(hd:(eu ops.size done == eu ops.size done')=true)(he:EnvSub env env')(hL:Ent L L')(h:GF P N ops done' n pend env' L' K):GF P N ops done n pend env L K:=by
 have e:=eq_of_beq hd;intro hK hs a0 θ Y a w S i a2 a1;rw[e] at a0 ⊢;exact h hK hs a0 θ Y a w S (i.less he hL) a2 a1
def GF.ent(hL:Ent L L')(h:GF P N ops done n pend env L' K):GF P N ops done n pend env L K:=fun hK hs a1 θ Y a w S i a2 a0=>h hK hs a1 θ Y a w S (i.less (EnvSub.refl _) hL) a2 a0
end gf
end Go.V
namespace Go.Proofs.YtommnllbflbdmaaGreatDoor
section
open Go.V
attribute [local irreducible] G GO GP GPW GPK Ev Ef EfR Ent CB GB V.Enters
def pK{L:LH}(t:Int):Tri ai 235 #[ac t] L (fun v L'=>v=.bool (dB (iz t))∧L' = L):=by
 refine Tri.bd ?_;by_cases h1:1≤t
 ·refine Jq ?_;intros;exact KX.d7 al (Ent.refl _) ⟨by rw[gh (show iz t↔t≤1048576 from⟨fun q=>q.2,fun q=>⟨h1,q⟩⟩)];rfl,rfl⟩
 ·refine Jq ?_;intros;exact KX.d7 al (Ent.refl _) ⟨by rw[aG (show ¬iz t from fun q=>h1 q.1)];rfl,rfl⟩
instance (s:StM):Decidable (gO s):=by unfold gO;infer_instance
def rk{L:LH}(s:StV)[hr:Rds L s.mad MvV aM 5 s.moves](hn:∀m∈s.moves,0≤m.m.n)(hl:s.moves.length≤1000000) :
  Tri ai 150 #[aN (aT s)] L (fun v L'=>v=.bool (dB (gO s.m))∧L' = L):=by
 have a0:s.m.moves.length=s.moves.length:=by show(s.moves.map MvV.m).length=_;rw[aA]
 refine Tri.bd ?_;simp only[aT];by_cases c1:s.rule = -1
 case neg =>
  rw[aG (show ¬gO s.m from fun q=>c1 q.1)];refine Jq ?_;intros;exact KX.en ⟨rfl,rfl⟩
 refine Jq ?_;intros;refine GO.cr (pK s.times) ?_;by_cases c2:iz s.times
 case neg =>
  rw[aG c2,aG (show ¬gO s.m from fun q=>c2 q.2.1)];refine Jq ?_;intros;exact KX.en ⟨rfl,rfl⟩
 rw[aS c2];by_cases c3:s.moves.length=2
 case neg =>
  rw[aG (show ¬gO s.m from fun q=>c3 (a0.symm.trans q.2.2.1))];refine Jq ?_;intros;exact KX.en ⟨rfl,rfl⟩
 have e0:s.m.moves[0]! = s.moves[0]!.m:=el _ (ab:0<s.moves.length);have e1:s.m.moves[1]! = s.moves[1]!.m:=el _ (ab:1<s.moves.length);have n0:=hn _ (aI (ab:0<s.moves.length));have n1:=hn _ (aI (ab:1<s.moves.length))
 have e:gO s.m↔s.moves[0]!.m.to=0∧s.moves[1]!.m.frm=0∧s.moves[1]!.m.to=s.moves[0]!.m.frm∧s.moves[0]!.m.n % s.times=0∧s.moves[1]!.m.n % s.times=0:=by
  unfold gO;rw[e0,e1];exact⟨fun q=>q.2.2.2,fun q=>⟨c1,c2,a0.trans c3,q⟩⟩
 unfold iz at c2;have t0:(0:Int).toNat=0:=rfl;have t1:(1:Int).toNat=1:=rfl;have i0:(0:Int).toNat<s.moves.length:=ab;have i1:(1:Int).toNat<s.moves.length:=ab;rw[←t0] at e n0;rw[←t1] at e n1;rw[gh e];clear e0 e1 e;repeat first|((fail_if_success (with_reducible refine G.atS 3 ?_));(with_reducible apply G.seq))|refine bW ?_|intro
 rename_i b1;refine G.d8 (α:=Nat×Nat) (fun _=>True) (fun g=>[(1,ax b1),(3,.pointer (some ⟨g.1,0,none⟩)),(4,.pointer (some ⟨g.2,0,none⟩))]) (fun g=>obj g.1 tMv (aM s.moves[(0:Int).toNat]!)::obj g.2 tMv (aM s.moves[(1:Int).toNat]!)::obj b1 be [ac s.id,ac s.kind,ac s.actor,ac s.tick,ac s.rule,ac s.times,ah s.mad s.moves.length s.mcap]::L) ?_ ?_
 ·refine G.e9 mixed krStd0 ?_;refine GF.evP (i:=0) rfl krStd0 (Ev.fieldAddr rfl) ag ?_;refine GF.evL (i:=1) rfl krStd0 (Ev.d8 rfl rfl) ag ?_;refine GF.evL (i:=2) rfl krStd0 (Ev.indexAddr rfl rfl ab ab ab) ag ?_;refine GF.evL (i:=3) rfl krStd0 (Ev.e7 rfl ab) ag ?_;refine GF.evP (i:=4) rfl krStd0 (Ev.fieldAddr rfl) ag ?_;refine GF.evL (i:=5) rfl krStd0 (Ev.d8 rfl rfl) ag ?_;refine GF.evL (i:=6) rfl krStd0 (Ev.indexAddr rfl rfl ab ab ab) ag ?_;refine GF.evL (i:=7) rfl krStd0 (Ev.e7 rfl ab) ag ?_;refine GF.d7 8 9 krStd0 ?_ ?_
  ·refine GE.ef rfl Ef.alloc ag ?_;rintro _ _⟨b3,rfl,rfl⟩;refine⟨(by intro pe hp;simp only[bj,aU,or_false] at hp;rcases hp with rfl|rfl|rfl|rfl|rfl|rfl<;>first|exact Ev.d8 rfl rfl|exact Ev.indexAddr rfl rfl ab ab ab|exact Ev.e7 rfl ab),?_⟩;refine GF.plan [.ef 9,.ef 10,.ef 11] krStd0 rfl ?_;refine Jq ?_;intros;exact⟨(b3,_),trivial,av,by exact ae⟩
  ·refine GE.ef rfl Ef.alloc ag ?_;rintro _ _⟨b4,rfl,rfl⟩;refine⟨(by intro pe hp;simp only[bj,aU,or_false] at hp;rcases hp with rfl|rfl|rfl|rfl|rfl|rfl<;>first|exact Ev.d8 rfl rfl|exact Ev.indexAddr rfl rfl ab ab ab|exact Ev.e7 rfl ab),?_⟩;refine GF.plan [.ef 8,.ef 10,.ef 11] krStd0 rfl ?_;refine Jq ?_;intros;exact⟨(_,b4),trivial,av,by exact ae⟩
 rintro⟨b3,b4⟩ _;generalize s.moves[(0:Int).toNat]! = m0 at *;generalize s.moves[(1:Int).toNat]! = m1 at *;simp only[aM];by_cases d1:m0.m.to=0
 case neg =>
  refine Jq ?_;intros;exact KX.d7 al ae ⟨by rw[aG (fun h=>d1 h.1)];rfl,rfl⟩
 by_cases d2:m1.m.frm=0
 case neg =>
  refine Jq ?_;intros;exact KX.d7 al ae ⟨by rw[aG (fun h=>d2 h.2.1)];rfl,rfl⟩
 by_cases d3:m1.m.to=m0.m.frm
 case neg =>
  refine Jq ?_;intros;exact KX.d7 al ae ⟨by rw[aG (fun h=>d3 h.2.2.1)];rfl,rfl⟩
 by_cases d4:m0.m.n % s.times=0
 case neg =>
  refine Jq ?_;intros;exact KX.d7 al ae ⟨by rw[aG (fun h=>d4 h.2.2.2.1)];rfl,rfl⟩
 refine Jq ?_;intros;refine KX.d7 al ae ⟨?_,rfl⟩;by_cases d5:m1.m.n % s.times=0
 ·rw[aS d5,aS ⟨d1,d2,d3,d4,d5⟩];rfl
 ·rw[aG d5,aG (fun h=>d5 h.2.2.2.2)];rfl
def mtP(pa po:MvM→Int)(times:Int)(ms:List MvV)(am:List (Int×Int)):Prop:=∀i:Nat,i<ms.length→po ms[i]!.m=0∧pa ms[i]!.m=pa ms[0]!.m∧ms[i]!.m.item=am[i]!.1∧ms[i]!.m.n=am[i]!.2*times
noncomputable instance (pa po t ms am):Decidable (mtP pa po t ms am):=Classical.propDecidable _
def AskM(f:FuncId)(p:MvM→Int):Prop:=∀(m:MvV) (L:LH),Tri ai f #[aN (aM m)] L (fun v L'=>v=ac (p m.m)∧L' = L)
def Gm:AskM 237 (fun m=>m.frm):=by
 intro m L;refine Tri.bd (args:=[aN (aM m)]) ?_;refine Jq ?_;intros;exact KX.en ⟨rfl,rfl⟩
def HJ:AskM 238 (fun m=>m.to):=by
 intro m L;refine Tri.bd (args:=[aN (aM m)]) ?_;refine Jq ?_;intros;exact KX.en ⟨rfl,rfl⟩
abbrev AH:List Stp:=[.ev 0,.ev 1,.ef 2,.ev 3,.ev 4,.ev 5,.ev 6,.ev 8,.ev 9,.ev 10,.ev 11,.ef 7,.ef 12,.ev 13,.ev 14,.ev 15,.ev 16,.ev 17,.ev 18,.ev 19,.ev 20,.ev 21,.ev 22,.ev 23,.ev 24,.ev 25,.ev 26,.ev 27,.ev 28,.ev 29,.ev 30,.ev 31,.ev 32,.ev 33,.ev 34,.ev 35,.ev 36,.ev 37]
def Vz{φ ψ:Prop}(k:ψ)(h:Hid ψ→φ:=by intro k;(repeat (first|refine aa ?_|intro zzz|refine G.dr 58 4 AH ?_));(repeat revert zzz);exact Hid.out k):φ:=h ⟨k⟩
def qj{L:LH}(b:Nat)(s:StV)(ht:iz s.times)(fa fo:FuncId)(pa po:MvM→Int)(ha:AskM fa pa)(ho:AskM fo po)(ad:OA)(n c:Nat)(ms:List MvV)[hr:Rds L ad MvV aM 5 ms](a2:OA)(n2 c2:Nat)(am:List (Int×Int))[b6:Rds L a2 (Int×Int) cw 2 am](hn:n=ms.length)(a5:n2=am.length)(hl:ms.length=am.length)(b4:am.length≤64)(hb:AmB am) :
  Tri ai 236 #[ah ad n c,ah a2 n2 c2,.func (.func fa) #[] #[],.func (.func fo) #[] #[],ax b] (obj b be (aT s)::L) (fun v L'=>v=.bool (dB (mtP pa po s.times ms am))∧L' = obj b be (aT s)::L):=by
 subst hn a5;obtain⟨b5,b2⟩:=ht;refine Tri.bd ?_;refine Vz ?_;intros;refine G.loop (α:=Nat) (fun i=>i≤ms.length∧∀j:Nat,j<i→po ms[j]!.m=0∧pa ms[j]!.m=pa ms[0]!.m∧ms[j]!.m.item=am[j]!.1∧ms[j]!.m.n=am[j]!.2*s.times) (fun i=>[(0,ah ad ms.length c),(1,ah a2 am.length c2),(2,.func (.func fa) #[] #[]),(3,.func (.func fo) #[] #[]),(4,ax b),(12,ah ad ms.length c),(13,ac ms.length),(14,ac (i:Int))]) (fun _=>obj b be (aT s)::L) (fun i=>ms.length - i) 0 ⟨aw _,fun j h=>absurd h (cl j)⟩ av (Ent.refl _) ?_;rintro i ⟨hi,a3⟩;by_cases a6:i<ms.length
 case neg =>
  refine Vz ?_;intros;exact KX.d7 al ae ⟨by rw[aS (show mtP pa po s.times ms am from fun j hj=>a3 j ab)];rfl,rfl⟩
 have a4:(i:Int).toNat=i:=aC i;have a0:∀{p:Prop},¬p→(po ms[i]!.m=0∧pa ms[i]!.m=pa ms[0]!.m∧ms[i]!.m.item=am[i]!.1∧ms[i]!.m.n=am[i]!.2*s.times→p)→dB (mtP pa po s.times ms am)=false:=fun h q=>aG (fun r=>h (q (r i a6)));obtain⟨b3,a9⟩:=hb _ (aI (ab:i<am.length));have a1:0≤am[i]!.2*s.times∧am[i]!.2*s.times≤1099511627776*1048576:=⟨dI b3 ab,fH a9 b2 ab ab⟩;have t0:ms[0]! = ms[(0:Int).toNat]!:=rfl;rw[t0] at a0;rw[←a4] at a1 a0;obtain⟨b0,b1⟩:=a1;have a8 : (i:Int).toNat<ms.length:=ab;have a7:(i:Int).toNat<am.length:=ab;refine Vz ?_;intros;refine GPW.ef (Ef.d8 rfl rfl (ho ms[(i:Int).toNat]! _)) ag ?_;rintro _ _⟨rfl,rfl⟩;by_cases c1:po ms[(i:Int).toNat]!.m=0
 case neg =>
  refine Vz ?_;intros;exact KX.d7 al ae ⟨by rw[a0 c1 (fun q=>q.1)];rfl,rfl⟩
 refine Vz ?_;intros;refine GPW.ef (Ef.d8 rfl rfl (ha ms[(i:Int).toNat]! _)) ag ?_;rintro _ _⟨rfl,rfl⟩;refine Vz ?_;intros;refine GPW.ef (Ef.d8 rfl rfl (ha ms[(0:Int).toNat]! _)) ag ?_;rintro _ _⟨rfl,rfl⟩;by_cases c2:pa ms[(i:Int).toNat]!.m=pa ms[(0:Int).toNat]!.m
 case neg =>
  refine Vz ?_;intros;exact KX.d7 al ae ⟨by rw[a0 c2 (fun q=>q.2.1)];rfl,rfl⟩
 by_cases c3:ms[(i:Int).toNat]!.m.item=am[(i:Int).toNat]!.1
 case neg =>
  refine Vz ?_;intros;exact KX.d7 al ae ⟨by rw[a0 c3 (fun q=>q.2.2.1)];rfl,rfl⟩
 by_cases c4:ms[(i:Int).toNat]!.m.n=am[(i:Int).toNat]!.2*s.times
 case neg =>
  refine Vz ?_;intros;exact KX.d7 al ae ⟨by rw[a0 c4 (fun q=>q.2.2.2)];rfl,rfl⟩
 refine Vz ?_;intros;refine⟨i+1,⟨ab,fun j hj=>?_⟩,ab,?_,by exact ae⟩
 ·rcases cc j i with h|h
  ·exact a3 j h
  ·obtain rfl:j=i:=ab;rw[t0];rw[a4] at c1 c2 c3 c4;exact⟨c1,c2,c3,c4⟩
 ·rw[aV i];exact av
abbrev xB:=ay6 [.ev 10,.ef 11,.ev 12,.ev 13,.ev 14,.ev 15,.ev 16,.ev 17,.ev 18,.ev 19,.ev 20,.ev 21,.ev 22,.ef 23,.ev 24,.ev 25]
def cM{φ ψ:Prop}(k:ψ)(h:Hid ψ→φ:=by intro k;(with_reducible apply G.d7);first|refine G.dr 97 17 xB (Hid.out k)):φ:=h ⟨k⟩
def VJ{φ ψ:Prop}(k:ψ)(h:Hid ψ→φ:=by intro k;(repeat (first|refine aa ?_|intro zzz|refine G.dr 97 17 xB ?_));(repeat revert zzz);exact Hid.out k):φ:=h ⟨k⟩
def wc{L R:LH}{b:Nat}{sh:Int}{x:BkX}[hp:PickObj L b tBk (bP sh x) R](s:StV)[b2:Rds L s.mad MvV aM 5 s.moves](hc:x.cat.m.Ok)(hB:x.cat.B)(c9:s.moves.length≤64)(a5:s.moves.length≤s.mcap)(hI:I64 s.rule) :
  Tri ai 149 #[ax b,aN (aT s)] (catP x.cat::L) (fun v L'=>v=.bool (dB (fP x.cat.m.rules s.rule s.times (s.moves.map MvV.m)))∧L' = catP x.cat::L):=by
 obtain⟨c7,c6⟩:=hI;have c8:=hB.rules;have c3:x.cat.m.rules.length=x.cat.rules.length:=by simp[CatV.m]
 refine Tri.bd ?_;repeat first|((fail_if_success (with_reducible refine G.d9 2 ?_));(with_reducible apply G.seq))|refine bW ?_|intro _|refine cM ?_
 rename_i b3;refine G.d8 (α:=Unit) (fun _=>True) (fun _=>[(0,ax b),(3,ax b3),(5,ac (aR s.rule))]) (fun _=>obj b3 be (aT s)::catP x.cat::L) ?_ ?_
 ·by_cases hf:s.rule < -1
  ·refine VJ ?_;intros;refine⟨(),trivial,?_,by exact ae⟩;unfold aR;rw[if_pos hf];exact av
  ·refine VJ ?_;intros;refine⟨(),trivial,?_,by exact ae⟩;unfold aR;rw[if_neg hf];exact av
 rintro _ _;by_cases h1:0≤aR s.rule
 case neg =>
  refine VJ ?_;intros;exact KX.d7 al ae ⟨by rw[aG (fun h=>h1 h.1.1)];rfl,rfl⟩
 by_cases h2:aR s.rule<x.cat.rules.length
 case neg =>
  refine VJ ?_;intros;exact KX.d7 al ae ⟨by rw[aG (fun h=>h2 (by have:=h.1.2;omega))];rfl,rfl⟩
 refine VJ ?_;intros;refine GO.cr (pK s.times) ?_;by_cases h3:iz s.times
 case neg =>
  rw[aG h3];refine VJ ?_;intros;exact KX.d7 al ae ⟨by rw[aG (fun h=>h3 h.2.1)];rfl,rfl⟩
 rw[aS h3];have a4:(aR s.rule).toNat<x.cat.rules.length:=ab;have a0:x.cat.rules[(aR s.rule).toNat]!∈x.cat.rules:=aI a4;have a2 : x.cat.m.rules[(aR s.rule).toNat]! = x.cat.rules[(aR s.rule).toNat]!.m:=el RuV.m a4;have a3:x.cat.rules[(aR s.rule).toNat]!.m∈x.cat.m.rules:=alStd0List_mem_map_of_mem a0;refine GO.ent (Ent.at (A:=catP x.cat) catOpenR) ?_;refine GO.ent (Ent.at (A:=allP ruP x.cat.rules) ((Ent.e7 (f:=ruP) a0).trans ruOpen)) ?_;have c1:=hB.ru _ a0;have a8:=hc.take _ a3;have a7:=hc.give _ a3;have b5:=hc.back _ a3
 have a1:fP x.cat.m.rules s.rule s.times (s.moves.map MvV.m)↔(x.cat.rules[(aR s.rule).toNat]!.spawn=false∧¬(s.rule < -1∧x.cat.rules[(aR s.rule).toNat]!.chance ≥ x.cat.rules[(aR s.rule).toNat]!.of_)∧s.moves.length=x.cat.rules[(aR s.rule).toNat]!.take.l.length+(x.cat.rules[(aR s.rule).toNat]!.given s.rule).l.length ∧
   (∀i:Nat,i<x.cat.rules[(aR s.rule).toNat]!.take.l.length→lk (s.moves.map MvV.m) s.times x.cat.rules[(aR s.rule).toNat]!.take.l[i]! (s.moves.map MvV.m)[i]!) ∧
   (∀i:Nat,i<(x.cat.rules[(aR s.rule).toNat]!.given s.rule).l.length→ls ((s.moves.map MvV.m)[x.cat.rules[(aR s.rule).toNat]!.take.l.length]!).to s.times (x.cat.rules[(aR s.rule).toNat]!.given s.rule).l[i]! (s.moves.map MvV.m)[x.cat.rules[(aR s.rule).toNat]!.take.l.length+i]!)):=by
  unfold fP;rw[a2,sA,aA];exact⟨fun h=>h.2.2,fun h=>⟨⟨h1,ab⟩,h3,h⟩⟩
 obtain⟨b9,c0,c4⟩:=c1;simp only[AmB,RuV.m] at a8 a7 b5;have b7:(x.cat.rules[(aR s.rule).toNat]!.given s.rule).l.length≤64:=by unfold RuV.given;split<;>assumption
 have c5:∀a∈(x.cat.rules[(aR s.rule).toNat]!.given s.rule).l,0≤a.2∧a.2≤1099511627776:=by unfold RuV.given;split<;>assumption
 refine GO.ent (L':=amS (x.cat.rules[(aR s.rule).toNat]!.given s.rule)::amS x.cat.rules[(aR s.rule).toNat]!.take::isl cY 9 x.cat.rad x.cat.rules::catP x.cat::obj b3 be (aT s)::L) ?_ ?_
 ·unfold RuV.given;split
  ·exact ae
  ·exact ae
 repeat first|((fail_if_success (with_reducible refine G.d9 8 ?_));(with_reducible apply G.seq))|refine bW ?_|intro _|refine cM ?_
 rename_i b6;have a9:∀h:s.rule < -1,x.cat.rules[(aR s.rule).toNat]!.given s.rule=x.cat.rules[(aR s.rule).toNat]!.back:=fun h=>if_pos h;have a6:∀h:¬s.rule < -1,x.cat.rules[(aR s.rule).toNat]!.given s.rule=x.cat.rules[(aR s.rule).toNat]!.give:=fun h=>if_neg h;clear a2 a0 a3 a7 b5 c0 c4 a4;generalize x.cat.rules[(aR s.rule).toNat]! = r at *;generalize r.given s.rule=gv at *;by_cases h5:s.rule < -1∧r.chance ≥ r.of_
 case pos =>
  obtain⟨c2,b0⟩:=h5;refine VJ ?_;intros;exact KX.d7 al ae ⟨by rw[aG (fun h=>(a1.1 h).2.1 ⟨c2,b0⟩)];rfl,rfl⟩
 refine G.d8 (α:=Unit) (fun _=>True) (fun _=>[(0,ax b),(3,ax b3),(6,ax b6),(7,ah gv.ad gv.l.length gv.cap)]) (fun _=>obj b6 tRu (cY r)::obj b3 be (aT s)::amS gv::amS r.take::catP x.cat::L) ?_ ?_
 ·by_cases hf:s.rule < -1
  ·have b0:¬r.chance ≥ r.of_:=fun h=>h5 ⟨hf,h⟩;rw[a9 hf];refine VJ ?_;intros;exact⟨(),trivial,av,by exact ae⟩
  ·rw[a6 hf];refine VJ ?_;intros;exact⟨(),trivial,av,by exact ae⟩
 rintro _ _;clear a9 a6;cases h4:r.spawn with
 | true =>
  refine VJ ?_;intros;rw[h4];refine VJ ?_;intros;exact KX.d7 al ae ⟨by rw[aG (fun h=>by have:=(a1.1 h).1;rw[h4] at this;cases this)];rfl,rfl⟩
 | false =>
 by_cases h6:s.moves.length=r.take.l.length+gv.l.length
 case neg =>
  refine VJ ?_;intros;rw[h4];refine VJ ?_;intros;exact KX.d7 al ae ⟨by rw[aG (fun h=>h6 (a1.1 h).2.2.1)];rfl,rfl⟩
 have b8:r.take.l.length≤s.moves.length:=ab
 have b1:mtP (fun m=>m.frm) (fun m=>m.to) s.times (s.moves.take r.take.l.length) r.take.l↔∀i:Nat,i<r.take.l.length→lk (s.moves.map MvV.m) s.times r.take.l[i]! (s.moves.map MvV.m)[i]!:=by
  have e:∀i,i<r.take.l.length→(s.moves.take r.take.l.length)[i]! = s.moves[i]!:=fun i hi=>by rw[getElem!_of (by rw[bG];omega),getElem!_of ab,List.getElem_take]
  unfold mtP lk;rw[bG,Nat.min_eq_left b8];constructor
  ·intro h i hi;obtain⟨g1,g2,g3,g4⟩:=h i hi;rw[e i hi] at g1 g2 g3 g4;rw[e 0 ab] at g2;rw[jT _ ab,jT _ ab];exact⟨g2,g1,g3,g4⟩
  ·intro h i hi;obtain⟨g1,g2,g3,g4⟩:=h i hi;rw[jT _ ab] at g1 g2 g3 g4;rw[jT _ ab] at g1;rw[e i hi,e 0 ab];exact⟨g2,g1,g3,g4⟩
 have b4:mtP (fun m=>m.to) (fun m=>m.frm) s.times (s.moves.drop r.take.l.length) gv.l↔∀i:Nat,i<gv.l.length→ls ((s.moves.map MvV.m)[r.take.l.length]!).to s.times gv.l[i]! (s.moves.map MvV.m)[r.take.l.length+i]!:=by
  have e:∀i,i<gv.l.length→(s.moves.drop r.take.l.length)[i]! = s.moves[r.take.l.length+i]!:=fun i hi=>by rw[getElem!_of (by rw[dQ];omega),getElem!_of ab,List.getElem_drop]
  unfold mtP ls;rw[dQ,show s.moves.length - r.take.l.length=gv.l.length by omega];constructor
  ·intro h i hi;obtain⟨g1,g2,g3,g4⟩:=h i hi;rw[e i hi] at g1 g2 g3 g4;rw[e 0 ab] at g2;rw[jT _ ab,jT _ ab];exact⟨g1,g2,g3,g4⟩
  ·intro h i hi;obtain⟨g1,g2,g3,g4⟩:=h i hi;rw[jT _ ab] at g1 g2 g3 g4;rw[jT _ ab] at g2;rw[e i hi,e 0 ab];exact⟨g1,g2,g3,g4⟩
 haveI hrt:=Rds.take b2 r.take.l.length
 haveI hrd:=Rds.drop b2 a5 r.take.l.length
 refine VJ ?_;intros;rw[h4];refine VJ ?_;intros;refine GPW.ent (L':=obj b3 be (aT s)::obj b6 tRu (cY r)::amS gv::amS r.take::catP x.cat::L) ae ?_;rw[show((Int.toNat (r.take.l.length:Int)))=r.take.l.length from aC _];refine GPW.ef (Ef.d8 rfl rfl (qj (L:=obj b6 tRu (cY r)::amS gv::amS r.take::catP x.cat::L) b3 s h3 237 238 (fun m=>m.frm) (fun m=>m.to) Gm HJ s.mad r.take.l.length s.mcap (s.moves.take r.take.l.length) (hr:=inferInstance) r.take.ad r.take.l.length r.take.cap r.take.l (by rw[bG];omega) rfl (by rw[bG];omega) b9 a8)) ag ?_;rintro _ _⟨rfl,rfl⟩;by_cases q1:mtP (fun m=>m.frm) (fun m=>m.to) s.times (s.moves.take r.take.l.length) r.take.l
 case neg =>
  rw[aG q1];refine VJ ?_;intros;exact KX.d7 al ae ⟨by rw[aG (fun h=>q1 (b1.2 (a1.1 h).2.2.2.1))];rfl,rfl⟩
 rw[aS q1];refine VJ ?_;intros;rw[show((Int.toNat (r.take.l.length:Int)))=r.take.l.length from aC _];refine GPW.ef (Ef.d8 rfl rfl (qj (L:=obj b6 tRu (cY r)::amS gv::amS r.take::catP x.cat::L) b3 s h3 238 237 (fun m=>m.to) (fun m=>m.frm) HJ Gm (advA s.mad s.mcap 5 r.take.l.length) (s.moves.length - r.take.l.length) (s.mcap - r.take.l.length) (s.moves.drop r.take.l.length) (hr:=inferInstance) gv.ad gv.l.length gv.cap gv.l (by rw[dQ]) rfl (by rw[dQ];omega) b7 c5)) ag ?_;rintro _ _⟨rfl,rfl⟩;refine VJ ?_;intros;refine KX.d7 al ae ⟨?_,rfl⟩;by_cases q2:mtP (fun m=>m.to) (fun m=>m.frm) s.times (s.moves.drop r.take.l.length) gv.l
 ·rw[aS q2,aS (a1.2 ⟨h4,h5,h6,b1.1 q1,b4.1 q2⟩)];rfl
 ·rw[aG q2,aG (fun h=>q2 (b4.2 (a1.1 h).2.2.2.2))];rfl
