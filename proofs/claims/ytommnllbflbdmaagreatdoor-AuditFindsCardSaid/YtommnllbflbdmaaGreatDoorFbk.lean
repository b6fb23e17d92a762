/- Lemmas. -/
import Derived.Test.YtommnllbflbdmaaGreatDoorFbj
set_option linter.all false
set_option maxHeartbeats 4000000
namespace Go.Proofs.YtommnllbflbdmaaGreatDoor
open Go.V
attribute [local irreducible] G GO GP GPW GPK Ev Ef EfR Ent CB GB V.Enters
def fM(k:Int)(m:MvM):Prop :=
 if k=0 then m.frm=0∧m.parts.length=0 else if k=1∨k=6 then m.to=0∧m.parts.length=0 else if k=2∨k=3∨k=8 then m.frm≠0∧m.to≠0∧m.parts.length=0
 else if k=5 then m.frm=0∧fY m.parts m.n else if k=7 then m.frm≠0∧fY m.parts m.n else if k=9 then m.to≠0∧fY m.parts m.n else m.parts.length=0
instance (k:Int)(m:MvM):Decidable (fM k m):=by unfold fM;infer_instance
def gi{p q:Prop}[Decidable p][Decidable q](h:p↔q):dB p=dB q:=by
 by_cases c:p
 ·rw[aU c,aU (h.1 c)]
 ·rw[aH c,aH (fun x=>c (h.2 x))]
abbrev Ba:=aH1 []
def UI{φ ψ:Prop}(k:ψ)(h:Hid ψ→φ:=by intro k;(repeat (first|refine aa ?_|intro zzz|refine G.dr 85 1 Ba ?_));(repeat revert zzz);exact Hid.out k):φ:=h ⟨k⟩
def EL{L:LH}(k:Int)(m:MvV)[hr:Rds L m.pad Lot aj 3 m.m.parts](hm:m.m.parts.length≤9223372036854775807):Tri ai 148 #[ac k,aO (aL m)] L (rtQ (.bool (dB (fM k m.m))) L):=by
 obtain⟨⟨frm,to,item,mn,parts⟩,pad,pcap⟩:=m;dsimp only at hr hm ⊢;refine Tri.bd (args:=[ac k,aO (aL ⟨⟨frm,to,item,mn,parts⟩,pad,pcap⟩)]) ?_;simp only[aL];have a0:((parts.length:Int)=0)↔parts.length=0:=ab;by_cases k0:k=0
 ·subst k0;have e:fM 0 ⟨frm,to,item,mn,parts⟩↔frm=0∧parts.length=0:=Iff.rfl;by_cases c1:frm=0
  ·refine UI ?_;intros;exact KX.d7 an ag ⟨by rw[gi (e.trans ⟨fun q=>q.2,fun q=>⟨c1,q⟩⟩),←gi a0];rfl,rfl⟩
  ·skip;refine UI ?_;intros;exact KX.d7 an ag ⟨by rw[aH (show ¬fM _ ⟨frm,to,item,mn,parts⟩ from fun q=>c1 (e.1 q).1)];rfl,rfl⟩
 by_cases k1:k=1
 ·subst k1;have e:fM 1 ⟨frm,to,item,mn,parts⟩↔to=0∧parts.length=0:=Iff.rfl;by_cases c1:to=0
  ·refine UI ?_;intros;exact KX.d7 an ag ⟨by rw[gi (e.trans ⟨fun q=>q.2,fun q=>⟨c1,q⟩⟩),←gi a0];rfl,rfl⟩
  ·skip;refine UI ?_;intros;exact KX.d7 an ag ⟨by rw[aH (show ¬fM _ ⟨frm,to,item,mn,parts⟩ from fun q=>c1 (e.1 q).1)];rfl,rfl⟩
 by_cases k6:k=6
 ·subst k6;have e:fM 6 ⟨frm,to,item,mn,parts⟩↔to=0∧parts.length=0:=Iff.rfl;by_cases c1:to=0
  ·refine UI ?_;intros;exact KX.d7 an ag ⟨by rw[gi (e.trans ⟨fun q=>q.2,fun q=>⟨c1,q⟩⟩),←gi a0];rfl,rfl⟩
  ·skip;refine UI ?_;intros;exact KX.d7 an ag ⟨by rw[aH (show ¬fM _ ⟨frm,to,item,mn,parts⟩ from fun q=>c1 (e.1 q).1)];rfl,rfl⟩
 by_cases k2:k=2
 ·subst k2;have e:fM 2 ⟨frm,to,item,mn,parts⟩↔frm≠0∧to≠0∧parts.length=0:=Iff.rfl;by_cases c1:frm=0
  ·skip;refine UI ?_;intros;exact KX.d7 an ag ⟨by rw[aH (show ¬fM _ ⟨frm,to,item,mn,parts⟩ from fun q=>(e.1 q).1 c1)];rfl,rfl⟩
  by_cases c2:to=0
  ·skip;refine UI ?_;intros;exact KX.d7 an ag ⟨by rw[aH (show ¬fM _ ⟨frm,to,item,mn,parts⟩ from fun q=>(e.1 q).2.1 c2)];rfl,rfl⟩
  refine UI ?_;intros;exact KX.d7 an ag ⟨by rw[gi (e.trans ⟨fun q=>q.2.2,fun q=>⟨c1,c2,q⟩⟩),←gi a0];rfl,rfl⟩
 by_cases k3:k=3
 ·subst k3;have e:fM 3 ⟨frm,to,item,mn,parts⟩↔frm≠0∧to≠0∧parts.length=0:=Iff.rfl;by_cases c1:frm=0
  ·skip;refine UI ?_;intros;exact KX.d7 an ag ⟨by rw[aH (show ¬fM _ ⟨frm,to,item,mn,parts⟩ from fun q=>(e.1 q).1 c1)];rfl,rfl⟩
  by_cases c2:to=0
  ·skip;refine UI ?_;intros;exact KX.d7 an ag ⟨by rw[aH (show ¬fM _ ⟨frm,to,item,mn,parts⟩ from fun q=>(e.1 q).2.1 c2)];rfl,rfl⟩
  refine UI ?_;intros;exact KX.d7 an ag ⟨by rw[gi (e.trans ⟨fun q=>q.2.2,fun q=>⟨c1,c2,q⟩⟩),←gi a0];rfl,rfl⟩
 by_cases k8:k=8
 ·subst k8;have e:fM 8 ⟨frm,to,item,mn,parts⟩↔frm≠0∧to≠0∧parts.length=0:=Iff.rfl;by_cases c1:frm=0
  ·skip;refine UI ?_;intros;exact KX.d7 an ag ⟨by rw[aH (show ¬fM _ ⟨frm,to,item,mn,parts⟩ from fun q=>(e.1 q).1 c1)];rfl,rfl⟩
  by_cases c2:to=0
  ·skip;refine UI ?_;intros;exact KX.d7 an ag ⟨by rw[aH (show ¬fM _ ⟨frm,to,item,mn,parts⟩ from fun q=>(e.1 q).2.1 c2)];rfl,rfl⟩
  refine UI ?_;intros;exact KX.d7 an ag ⟨by rw[gi (e.trans ⟨fun q=>q.2.2,fun q=>⟨c1,c2,q⟩⟩),←gi a0];rfl,rfl⟩
 by_cases k5:k=5
 ·subst k5;have e:fM 5 ⟨frm,to,item,mn,parts⟩↔frm=0∧fY parts mn:=Iff.rfl;by_cases c1:frm=0
  ·skip;refine UI ?_;intros;refine GO.cr (kI pad parts.length pcap parts mn rfl hm) ?_;refine UI ?_;intros;exact KX.d7 an ag ⟨by rw[gi (e.trans ⟨fun q=>q.2,fun q=>⟨c1,q⟩⟩)];rfl,rfl⟩
  ·skip;refine UI ?_;intros;exact KX.d7 an ag ⟨by rw[aH (show ¬fM _ ⟨frm,to,item,mn,parts⟩ from fun q=>c1 (e.1 q).1)];rfl,rfl⟩
 by_cases k7:k=7
 ·subst k7;have e:fM 7 ⟨frm,to,item,mn,parts⟩↔frm≠0∧fY parts mn:=Iff.rfl;by_cases c1:frm=0
  ·skip;refine UI ?_;intros;exact KX.d7 an ag ⟨by rw[aH (show ¬fM _ ⟨frm,to,item,mn,parts⟩ from fun q=>(e.1 q).1 c1)];rfl,rfl⟩
  ·skip;refine UI ?_;intros;refine GO.cr (kI pad parts.length pcap parts mn rfl hm) ?_;refine UI ?_;intros;exact KX.d7 an ag ⟨by rw[gi (e.trans ⟨fun q=>q.2,fun q=>⟨c1,q⟩⟩)];rfl,rfl⟩
 by_cases k9:k=9
 ·subst k9;have e:fM 9 ⟨frm,to,item,mn,parts⟩↔to≠0∧fY parts mn:=Iff.rfl;by_cases c1:to=0
  ·skip;refine UI ?_;intros;exact KX.d7 an ag ⟨by rw[aH (show ¬fM _ ⟨frm,to,item,mn,parts⟩ from fun q=>(e.1 q).1 c1)];rfl,rfl⟩
  ·skip;refine UI ?_;intros;refine GO.cr (kI pad parts.length pcap parts mn rfl hm) ?_;refine UI ?_;intros;exact KX.d7 an ag ⟨by rw[gi (e.trans ⟨fun q=>q.2,fun q=>⟨c1,q⟩⟩)];rfl,rfl⟩
 have e:fM k ⟨frm,to,item,mn,parts⟩↔parts.length=0:=by
  unfold fM;rw[if_neg k0,if_neg ab,if_neg ab,if_neg k5,if_neg k7,if_neg k9]
 refine UI ?_;intros;exact KX.d7 an ag ⟨by rw[gi e,←gi a0];rfl,rfl⟩
end Go.Proofs.YtommnllbflbdmaaGreatDoor
namespace Go.V
section gf
variable {P:Program}{N:Nat}{ops:Array Oper}{done done' : List Nat}{n:Nat}{pend:List PE}{env env' : Env}{L L' : LH}{K:Post}
def GF.conseq(hd:(eA ops.size done == eA ops.size done')=true)(he:EnvSub env env')(hL:Ent L L')(h:GF P N ops done' n pend env' L' K):GF P N ops done n pend env L K:=by
 have e:=eq_of_beq hd;intro hK hs a0 θ Y a w S i a1 a2;rw[e] at a0 ⊢;exact h hK hs a0 θ Y a w S (i.less he hL) a1 a2
def GF.ent(hL:Ent L L')(h:GF P N ops done n pend env L' K):GF P N ops done n pend env L K:=fun hK hs a0 θ Y a w S i a1 a2=>h hK hs a0 θ Y a w S (i.less (EnvSub.refl _) hL) a1 a2
end gf
end Go.V
namespace Go.Proofs.YtommnllbflbdmaaGreatDoor
section
open Go.V
attribute [local irreducible] G GO GP GPW GPK Ev Ef EfR Ent CB GB V.Enters
def pM{L:LH}(t:Int):Tri ai 235 #[ac t] L (rtQ (.bool (dB (iu t))) L):=by
 refine Tri.bd ?_;by_cases h1:1≤t
 ·refine JM ?_;intros;exact KX.d7 an (Ent.refl _) ⟨by rw[gi (show iu t↔t≤1048576 from⟨fun q=>q.2,fun q=>⟨h1,q⟩⟩)];rfl,rfl⟩
 ·refine JM ?_;intros;exact KX.d7 an (Ent.refl _) ⟨by rw[aH (show ¬iu t from fun q=>h1 q.1)];rfl,rfl⟩
instance (s:StM):Decidable (gS s):=by unfold gS;infer_instance
def rp{L:LH}(s:StV)[hr:Rds L s.mad MvV aL 5 s.moves](hn:∀m∈s.moves,0≤m.m.n)(hl:s.moves.length≤1000000) :
  Tri ai 150 #[aO (aN s)] L (rtQ (.bool (dB (gS s.m))) L):=by
 have a0:s.m.moves.length=s.moves.length:=by show(s.moves.map MvV.m).length=_;rw[az]
 refine Tri.bd ?_;simp only[aN];by_cases c1:s.rule = -1
 case neg =>
  rw[aH (show ¬gS s.m from fun q=>c1 q.1)];refine JM ?_;intros;exact KX.en ⟨rfl,rfl⟩
 refine JM ?_;intros;refine GO.cr (pM s.times) ?_;by_cases c2:iu s.times
 case neg =>
  rw[aH c2,aH (show ¬gS s.m from fun q=>c2 q.2.1)];refine JM ?_;intros;exact KX.en ⟨rfl,rfl⟩
 rw[aU c2];by_cases c3:s.moves.length=2
 case neg =>
  rw[aH (show ¬gS s.m from fun q=>c3 (a0.symm.trans q.2.2.1))];refine JM ?_;intros;exact KX.en ⟨rfl,rfl⟩
 have e0:s.m.moves[0]! = s.moves[0]!.m:=dI _ (ab:0<s.moves.length);have e1:s.m.moves[1]! = s.moves[1]!.m:=dI _ (ab:1<s.moves.length);have n0:=hn _ (aJ (ab:0<s.moves.length));have n1:=hn _ (aJ (ab:1<s.moves.length))
 have e:gS s.m↔s.moves[0]!.m.to=0∧s.moves[1]!.m.frm=0∧s.moves[1]!.m.to=s.moves[0]!.m.frm∧s.moves[0]!.m.n % s.times=0∧s.moves[1]!.m.n % s.times=0:=by
  unfold gS;rw[e0,e1];exact⟨fun q=>q.2.2.2,fun q=>⟨c1,c2,a0.trans c3,q⟩⟩
 unfold iu at c2;have t0:(0:Int).toNat=0:=rfl;have t1:(1:Int).toNat=1:=rfl;have i0:(0:Int).toNat<s.moves.length:=ab;have i1:(1:Int).toNat<s.moves.length:=ab;rw[←t0] at e n0;rw[←t1] at e n1;rw[gi e];clear e0 e1 e;repeat first|refine G.sn 3 ?_|refine bV ?_|intro
 rename_i b1;refine G.d8 (α:=Nat×Nat) (fun _=>True) (fun g=>[(1,ay b1),(3,.pointer (some ⟨g.1,0,none⟩)),(4,.pointer (some ⟨g.2,0,none⟩))]) (fun g=>obj g.1 tMv (aL s.moves[(0:Int).toNat]!)::obj g.2 tMv (aL s.moves[(1:Int).toNat]!)::obj b1 ba [ac s.id,ac s.kind,ac s.actor,ac s.tick,ac s.rule,ac s.times,ah s.mad s.moves.length s.mcap]::L) ?_ ?_
 ·refine G.e7 mixed krStd0 ?_;refine GF.evP (i:=0) rfl krStd0 (Ev.fieldAddr rfl) ae ?_;refine GF.evL (i:=1) rfl krStd0 (Ev.d8 rfl rfl) ae ?_;refine GF.evL (i:=2) rfl krStd0 (Ev.indexAddr rfl rfl ab ab ab) ae ?_;refine GF.evL (i:=3) rfl krStd0 (Ev.e7 rfl ab) ae ?_;refine GF.evP (i:=4) rfl krStd0 (Ev.fieldAddr rfl) ae ?_;refine GF.evL (i:=5) rfl krStd0 (Ev.d8 rfl rfl) ae ?_;refine GF.evL (i:=6) rfl krStd0 (Ev.indexAddr rfl rfl ab ab ab) ae ?_;refine GF.evL (i:=7) rfl krStd0 (Ev.e7 rfl ab) ae ?_;refine GF.d7 8 9 krStd0 ?_ ?_
  ·refine GE.ef rfl Ef.alloc ae ?_;rintro _ _⟨b3,rfl,rfl⟩;refine⟨(by intro pe hp;simp only[bA,aV,or_false] at hp;rcases hp with rfl|rfl|rfl|rfl|rfl|rfl<;>first|exact Ev.d8 rfl rfl|exact Ev.indexAddr rfl rfl ab ab ab|exact Ev.e7 rfl ab),?_⟩;refine GF.plan [.ef 9,.ef 10,.ef 11] krStd0 rfl ?_;refine JM ?_;intros;exact⟨(b3,_),trivial,av,by exact ag⟩
  ·refine GE.ef rfl Ef.alloc ae ?_;rintro _ _⟨b4,rfl,rfl⟩;refine⟨(by intro pe hp;simp only[bA,aV,or_false] at hp;rcases hp with rfl|rfl|rfl|rfl|rfl|rfl<;>first|exact Ev.d8 rfl rfl|exact Ev.indexAddr rfl rfl ab ab ab|exact Ev.e7 rfl ab),?_⟩;refine GF.plan [.ef 8,.ef 10,.ef 11] krStd0 rfl ?_;refine JM ?_;intros;exact⟨(_,b4),trivial,av,by exact ag⟩
 rintro⟨b3,b4⟩ _;generalize s.moves[(0:Int).toNat]! = m0 at *;generalize s.moves[(1:Int).toNat]! = m1 at *;simp only[aL];by_cases d1:m0.m.to=0
 case neg =>
  refine JM ?_;intros;exact KX.d7 an ag ⟨by rw[aH (fun h=>d1 h.1)];rfl,rfl⟩
 by_cases d2:m1.m.frm=0
 case neg =>
  refine JM ?_;intros;exact KX.d7 an ag ⟨by rw[aH (fun h=>d2 h.2.1)];rfl,rfl⟩
 by_cases d3:m1.m.to=m0.m.frm
 case neg =>
  refine JM ?_;intros;exact KX.d7 an ag ⟨by rw[aH (fun h=>d3 h.2.2.1)];rfl,rfl⟩
 by_cases d4:m0.m.n % s.times=0
 case neg =>
  refine JM ?_;intros;exact KX.d7 an ag ⟨by rw[aH (fun h=>d4 h.2.2.2.1)];rfl,rfl⟩
 refine JM ?_;intros;refine KX.d7 an ag ⟨?_,rfl⟩;by_cases d5:m1.m.n % s.times=0
 ·rw[aU d5,aU ⟨d1,d2,d3,d4,d5⟩];rfl
 ·rw[aH d5,aH (fun h=>d5 h.2.2.2.2)];rfl
def mtP(pa po:MvM→Int)(times:Int)(ms:List MvV)(am:List (Int×Int)):Prop:=∀i:Nat,i<ms.length→po ms[i]!.m=0∧pa ms[i]!.m=pa ms[0]!.m∧ms[i]!.m.item=am[i]!.1∧ms[i]!.m.n=am[i]!.2*times
noncomputable instance (pa po t ms am):Decidable (mtP pa po t ms am):=Classical.propDecidable _
def AskM(f:FuncId)(p:MvM→Int):Prop:=∀(m:MvV) (L:LH),Tri ai f #[aO (aL m)] L (rtQ (ac (p m.m)) L)
def GH:AskM 237 (fun m=>m.frm):=by
 intro m L;refine Tri.bd (args:=[aO (aL m)]) ?_;refine JM ?_;intros;exact KX.en ⟨rfl,rfl⟩
def Id:AskM 238 (fun m=>m.to):=by
 intro m L;refine Tri.bd (args:=[aO (aL m)]) ?_;refine JM ?_;intros;exact KX.en ⟨rfl,rfl⟩
abbrev AZ:List Stp:=[.ev 0,.ev 1,.ef 2,.ev 3,.ev 4,.ev 5,.ev 6,.ev 8,.ev 9,.ev 10,.ev 11,.ef 7,.ef 12,.ev 13,.ev 14,.ev 15,.ev 16,.ev 17,.ev 18,.ev 19,.ev 20,.ev 21,.ev 22,.ev 23,.ev 24,.ev 25,.ev 26,.ev 27,.ev 28,.ev 29,.ev 30,.ev 31,.ev 32,.ev 33,.ev 34,.ev 35,.ev 36,.ev 37]
def Vh{φ ψ:Prop}(k:ψ)(h:Hid ψ→φ:=by intro k;(repeat (first|refine aa ?_|intro zzz|refine G.dr 58 4 AZ ?_));(repeat revert zzz);exact Hid.out k):φ:=h ⟨k⟩
def qk{L:LH}(b:Nat)(s:StV)(ht:iu s.times)(fa fo:FuncId)(pa po:MvM→Int)(ha:AskM fa pa)(ho:AskM fo po)(ad:OA)(n c:Nat)(ms:List MvV)[hr:Rds L ad MvV aL 5 ms](a2:OA)(n2 c2:Nat)(am:List (Int×Int))[b6:Rds L a2 (Int×Int) cA 2 am](hn:n=ms.length)(b3:n2=am.length)(hl:ms.length=am.length)(b5:am.length≤64)(hb:AmB am) :
  Tri ai 236 #[ah ad n c,ah a2 n2 c2,.func (.func fa) #[] #[],.func (.func fo) #[] #[],ay b] (obj b ba (aN s)::L) (rtQ (.bool (dB (mtP pa po s.times ms am))) (obj b ba (aN s)::L)):=by
 subst hn b3;obtain⟨b4,a5⟩:=ht;refine Tri.bd ?_;refine Vh ?_;intros;refine G.loop (α:=Nat) (fun i=>i≤ms.length∧∀j:Nat,j<i→po ms[j]!.m=0∧pa ms[j]!.m=pa ms[0]!.m∧ms[j]!.m.item=am[j]!.1∧ms[j]!.m.n=am[j]!.2*s.times) (fun i=>[(0,ah ad ms.length c),(1,ah a2 am.length c2),(2,.func (.func fa) #[] #[]),(3,.func (.func fo) #[] #[]),(4,ay b),(12,ah ad ms.length c),(13,ac ms.length),(14,ac (i:Int))]) (fun _=>obj b ba (aN s)::L) (fun i=>ms.length - i) 0 ⟨ax _,fun j h=>absurd h (cj j)⟩ av (Ent.refl _) ?_;rintro i ⟨hi,a1⟩;by_cases a8:i<ms.length
 case neg =>
  refine Vh ?_;intros;exact KX.d7 an ag ⟨by rw[aU (show mtP pa po s.times ms am from fun j hj=>a1 j ab)];rfl,rfl⟩
 have a3:(i:Int).toNat=i:=aC i;have a0:∀{p:Prop},¬p→(po ms[i]!.m=0∧pa ms[i]!.m=pa ms[0]!.m∧ms[i]!.m.item=am[i]!.1∧ms[i]!.m.n=am[i]!.2*s.times→p)→dB (mtP pa po s.times ms am)=false:=fun h q=>aH (fun r=>h (q (r i a8)));obtain⟨a6,a7⟩:=hb _ (aJ (ab:i<am.length));have a4:0≤am[i]!.2*s.times∧am[i]!.2*s.times≤1099511627776*1048576:=⟨dH a6 ab,fF a7 a5 ab ab⟩;have t0:ms[0]! = ms[(0:Int).toNat]!:=rfl;rw[t0] at a0;rw[←a3] at a4 a0;obtain⟨b1,b2⟩:=a4;have a9 : (i:Int).toNat<ms.length:=ab;have b0:(i:Int).toNat<am.length:=ab;refine Vh ?_;intros;refine GPW.ef (Ef.d8 rfl rfl (ho ms[(i:Int).toNat]! _)) ae ?_;rintro _ _⟨rfl,rfl⟩;by_cases c1:po ms[(i:Int).toNat]!.m=0
 case neg =>
  refine Vh ?_;intros;exact KX.d7 an ag ⟨by rw[a0 c1 (fun q=>q.1)];rfl,rfl⟩
 refine Vh ?_;intros;refine GPW.ef (Ef.d8 rfl rfl (ha ms[(i:Int).toNat]! _)) ae ?_;rintro _ _⟨rfl,rfl⟩;refine Vh ?_;intros;refine GPW.ef (Ef.d8 rfl rfl (ha ms[(0:Int).toNat]! _)) ae ?_;rintro _ _⟨rfl,rfl⟩;by_cases c2:pa ms[(i:Int).toNat]!.m=pa ms[(0:Int).toNat]!.m
 case neg =>
  refine Vh ?_;intros;exact KX.d7 an ag ⟨by rw[a0 c2 (fun q=>q.2.1)];rfl,rfl⟩
 by_cases c3:ms[(i:Int).toNat]!.m.item=am[(i:Int).toNat]!.1
 case neg =>
  refine Vh ?_;intros;exact KX.d7 an ag ⟨by rw[a0 c3 (fun q=>q.2.2.1)];rfl,rfl⟩
 by_cases c4:ms[(i:Int).toNat]!.m.n=am[(i:Int).toNat]!.2*s.times
 case neg =>
  refine Vh ?_;intros;exact KX.d7 an ag ⟨by rw[a0 c4 (fun q=>q.2.2.2)];rfl,rfl⟩
 refine Vh ?_;intros;refine⟨i+1,⟨ab,fun j hj=>?_⟩,ab,?_,by exact ag⟩
 ·rcases cm j i with h|h
  ·exact a1 j h
  ·obtain rfl:j=i:=ab;rw[t0];rw[a3] at c1 c2 c3 c4;exact⟨c1,c2,c3,c4⟩
 ·rw[aY i];exact av
abbrev xQ:=aH2 [.ev 10,.ef 11,.ev 12,.ev 13,.ev 14,.ev 15,.ev 16,.ev 17,.ev 18,.ev 19,.ev 20,.ev 21,.ev 22,.ef 23,.ev 24,.ev 25]
def cZ{φ ψ:Prop}(k:ψ)(h:Hid ψ→φ:=by intro k;(with_reducible apply G.d7);first|refine G.dr 97 17 xQ (Hid.out k)):φ:=h ⟨k⟩
def Vr{φ ψ:Prop}(k:ψ)(h:Hid ψ→φ:=by intro k;(repeat (first|refine aa ?_|intro zzz|refine cZ ?_));(repeat revert zzz);exact Hid.out k):φ:=h ⟨k⟩
def wq{L R:LH}{b:Nat}{sh:Int}{x:BkX}[hp:PickObj L b tBk (bO sh x) R](s:StV)[b5:Rds L s.mad MvV aL 5 s.moves](hc:x.cat.m.Ok)(hB:x.cat.B)(c8:s.moves.length≤64)(a4:s.moves.length≤s.mcap)(hI:I64 s.rule) :
  Tri ai 149 #[ay b,aO (aN s)] (catP x.cat::L) (rtQ (.bool (dB (fN x.cat.m.rules s.rule s.times (s.moves.map MvV.m)))) (catP x.cat::L)):=by
 obtain⟨c6,c7⟩:=hI;have c9:=hB.rules;have c0:x.cat.m.rules.length=x.cat.rules.length:=by simp[CatV.m]
 refine Tri.bd ?_;repeat first|refine G.sm 2 ?_|refine bV ?_|intro _|refine cZ ?_
 rename_i b3;refine G.d8 (α:=Unit) (fun _=>True) (fun _=>[(0,ay b),(3,ay b3),(5,ac (aS s.rule))]) (fun _=>obj b3 ba (aN s)::catP x.cat::L) ?_ ?_
 ·by_cases hf:s.rule < -1
  ·refine Vr ?_;intros;refine⟨(),trivial,?_,by exact ag⟩;unfold aS;rw[if_pos hf];exact av
  ·refine Vr ?_;intros;refine⟨(),trivial,?_,by exact ag⟩;unfold aS;rw[if_neg hf];exact av
 rintro _ _;by_cases h1:0≤aS s.rule
 case neg =>
  refine Vr ?_;intros;exact KX.d7 an ag ⟨by rw[aH (fun h=>h1 h.1.1)];rfl,rfl⟩
 by_cases h2:aS s.rule<x.cat.rules.length
 case neg =>
  refine Vr ?_;intros;exact KX.d7 an ag ⟨by rw[aH (fun h=>h2 (by have:=h.1.2;omega))];rfl,rfl⟩
 refine Vr ?_;intros;refine GO.cr (pM s.times) ?_;by_cases h3:iu s.times
 case neg =>
  rw[aH h3];refine Vr ?_;intros;exact KX.d7 an ag ⟨by rw[aH (fun h=>h3 h.2.1)];rfl,rfl⟩
 rw[aU h3];have a5:(aS s.rule).toNat<x.cat.rules.length:=ab;have a0:x.cat.rules[(aS s.rule).toNat]!∈x.cat.rules:=aJ a5;have a2 : x.cat.m.rules[(aS s.rule).toNat]! = x.cat.rules[(aS s.rule).toNat]!.m:=dI RuV.m a5;have a3:x.cat.rules[(aS s.rule).toNat]!.m∈x.cat.m.rules:=alStd0List_mem_map_of_mem a0;refine GO.ent (Ent.at (A:=catP x.cat) catOpenR) ?_;refine GO.ent (Ent.at (A:=allP ruP x.cat.rules) ((Ent.e7 (f:=ruP) a0).trans ruOpen)) ?_;have c4:=hB.ru _ a0;have a9:=hc.take _ a3;have a8:=hc.give _ a3;have a7:=hc.back _ a3
 have a1:fN x.cat.m.rules s.rule s.times (s.moves.map MvV.m)↔(x.cat.rules[(aS s.rule).toNat]!.spawn=false∧¬(s.rule < -1∧x.cat.rules[(aS s.rule).toNat]!.chance ≥ x.cat.rules[(aS s.rule).toNat]!.of_)∧s.moves.length=x.cat.rules[(aS s.rule).toNat]!.take.l.length+(x.cat.rules[(aS s.rule).toNat]!.given s.rule).l.length ∧
   (∀i:Nat,i<x.cat.rules[(aS s.rule).toNat]!.take.l.length→li (s.moves.map MvV.m) s.times x.cat.rules[(aS s.rule).toNat]!.take.l[i]! (s.moves.map MvV.m)[i]!) ∧
   (∀i:Nat,i<(x.cat.rules[(aS s.rule).toNat]!.given s.rule).l.length→lp ((s.moves.map MvV.m)[x.cat.rules[(aS s.rule).toNat]!.take.l.length]!).to s.times (x.cat.rules[(aS s.rule).toNat]!.given s.rule).l[i]! (s.moves.map MvV.m)[x.cat.rules[(aS s.rule).toNat]!.take.l.length+i]!)):=by
  unfold fN;rw[a2,sF,az];exact⟨fun h=>h.2.2,fun h=>⟨⟨h1,ab⟩,h3,h⟩⟩
 obtain⟨c1,c2,c3⟩:=c4;simp only[AmB,RuV.m] at a9 a8 a7;have b9:(x.cat.rules[(aS s.rule).toNat]!.given s.rule).l.length≤64:=by unfold RuV.given;split<;>assumption
 have b8:∀a∈(x.cat.rules[(aS s.rule).toNat]!.given s.rule).l,0≤a.2∧a.2≤1099511627776:=by unfold RuV.given;split<;>assumption
 refine GO.ent (L':=amS (x.cat.rules[(aS s.rule).toNat]!.given s.rule)::amS x.cat.rules[(aS s.rule).toNat]!.take::isl cX 9 x.cat.rad x.cat.rules::catP x.cat::obj b3 ba (aN s)::L) ?_ ?_
 ·unfold RuV.given;split
  ·exact ag
  ·exact ag
 repeat first|refine G.sm 8 ?_|refine bV ?_|intro _|refine cZ ?_
 rename_i b6;have b0:∀h:s.rule < -1,x.cat.rules[(aS s.rule).toNat]!.given s.rule=x.cat.rules[(aS s.rule).toNat]!.back:=fun h=>if_pos h;have b1:∀h:¬s.rule < -1,x.cat.rules[(aS s.rule).toNat]!.given s.rule=x.cat.rules[(aS s.rule).toNat]!.give:=fun h=>if_neg h;clear a2 a0 a3 a8 a7 c2 c3 a5;generalize x.cat.rules[(aS s.rule).toNat]! = r at *;generalize r.given s.rule=gv at *;by_cases h5:s.rule < -1∧r.chance ≥ r.of_
 case pos =>
  obtain⟨b7,a6⟩:=h5;refine Vr ?_;intros;exact KX.d7 an ag ⟨by rw[aH (fun h=>(a1.1 h).2.1 ⟨b7,a6⟩)];rfl,rfl⟩
 refine G.d8 (α:=Unit) (fun _=>True) (fun _=>[(0,ay b),(3,ay b3),(6,ay b6),(7,ah gv.ad gv.l.length gv.cap)]) (fun _=>obj b6 tRu (cX r)::obj b3 ba (aN s)::amS gv::amS r.take::catP x.cat::L) ?_ ?_
 ·by_cases hf:s.rule < -1
  ·have a6:¬r.chance ≥ r.of_:=fun h=>h5 ⟨hf,h⟩;rw[b0 hf];refine Vr ?_;intros;exact⟨(),trivial,av,by exact ag⟩
  ·rw[b1 hf];refine Vr ?_;intros;exact⟨(),trivial,av,by exact ag⟩
 rintro _ _;clear b0 b1;cases h4:r.spawn with
 | true =>
  refine Vr ?_;intros;rw[h4];refine Vr ?_;intros;exact KX.d7 an ag ⟨by rw[aH (fun h=>by have:=(a1.1 h).1;rw[h4] at this;cases this)];rfl,rfl⟩
 | false =>
 by_cases h6:s.moves.length=r.take.l.length+gv.l.length
 case neg =>
  refine Vr ?_;intros;rw[h4];refine Vr ?_;intros;exact KX.d7 an ag ⟨by rw[aH (fun h=>h6 (a1.1 h).2.2.1)];rfl,rfl⟩
 have c5:r.take.l.length≤s.moves.length:=ab
 have b2:mtP (fun m=>m.frm) (fun m=>m.to) s.times (s.moves.take r.take.l.length) r.take.l↔∀i:Nat,i<r.take.l.length→li (s.moves.map MvV.m) s.times r.take.l[i]! (s.moves.map MvV.m)[i]!:=by
  have e:∀i,i<r.take.l.length→(s.moves.take r.take.l.length)[i]! = s.moves[i]!:=fun i hi=>by rw[getElem!_of (by rw[bg];omega),getElem!_of ab,List.getElem_take]
  unfold mtP li;rw[bg,Nat.min_eq_left c5];constructor
  ·intro h i hi;obtain⟨g1,g2,g3,g4⟩:=h i hi;rw[e i hi] at g1 g2 g3 g4;rw[e 0 ab] at g2;rw[jG _ ab,jG _ ab];exact⟨g2,g1,g3,g4⟩
  ·intro h i hi;obtain⟨g1,g2,g3,g4⟩:=h i hi;rw[jG _ ab] at g1 g2 g3 g4;rw[jG _ ab] at g1;rw[e i hi,e 0 ab];exact⟨g2,g1,g3,g4⟩
 have b4:mtP (fun m=>m.to) (fun m=>m.frm) s.times (s.moves.drop r.take.l.length) gv.l↔∀i:Nat,i<gv.l.length→lp ((s.moves.map MvV.m)[r.take.l.length]!).to s.times gv.l[i]! (s.moves.map MvV.m)[r.take.l.length+i]!:=by
  have e:∀i,i<gv.l.length→(s.moves.drop r.take.l.length)[i]! = s.moves[r.take.l.length+i]!:=fun i hi=>by rw[getElem!_of (by rw[cu];omega),getElem!_of ab,List.getElem_drop]
  unfold mtP lp;rw[cu,show s.moves.length - r.take.l.length=gv.l.length by omega];constructor
  ·intro h i hi;obtain⟨g1,g2,g3,g4⟩:=h i hi;rw[e i hi] at g1 g2 g3 g4;rw[e 0 ab] at g2;rw[jG _ ab,jG _ ab];exact⟨g1,g2,g3,g4⟩
  ·intro h i hi;obtain⟨g1,g2,g3,g4⟩:=h i hi;rw[jG _ ab] at g1 g2 g3 g4;rw[jG _ ab] at g2;rw[e i hi,e 0 ab];exact⟨g1,g2,g3,g4⟩
 haveI hrt:=Rds.take b5 r.take.l.length
 haveI hrd:=Rds.drop b5 a4 r.take.l.length
 refine Vr ?_;intros;rw[h4];refine Vr ?_;intros;refine GPW.ent (L':=obj b3 ba (aN s)::obj b6 tRu (cX r)::amS gv::amS r.take::catP x.cat::L) ag ?_;rw[show((Int.toNat (r.take.l.length:Int)))=r.take.l.length from aC _];refine GPW.ef (Ef.d8 rfl rfl (qk (L:=obj b6 tRu (cX r)::amS gv::amS r.take::catP x.cat::L) b3 s h3 237 238 (fun m=>m.frm) (fun m=>m.to) GH Id s.mad r.take.l.length s.mcap (s.moves.take r.take.l.length) (hr:=inferInstance) r.take.ad r.take.l.length r.take.cap r.take.l (by rw[bg];omega) rfl (by rw[bg];omega) c1 a9)) ae ?_;rintro _ _⟨rfl,rfl⟩;by_cases q1:mtP (fun m=>m.frm) (fun m=>m.to) s.times (s.moves.take r.take.l.length) r.take.l
 case neg =>
  rw[aH q1];refine Vr ?_;intros;exact KX.d7 an ag ⟨by rw[aH (fun h=>q1 (b2.2 (a1.1 h).2.2.2.1))];rfl,rfl⟩
 rw[aU q1];refine Vr ?_;intros;rw[show((Int.toNat (r.take.l.length:Int)))=r.take.l.length from aC _];refine GPW.ef (Ef.d8 rfl rfl (qk (L:=obj b6 tRu (cX r)::amS gv::amS r.take::catP x.cat::L) b3 s h3 238 237 (fun m=>m.to) (fun m=>m.frm) Id GH (advA s.mad s.mcap 5 r.take.l.length) (s.moves.length - r.take.l.length) (s.mcap - r.take.l.length) (s.moves.drop r.take.l.length) (hr:=inferInstance) gv.ad gv.l.length gv.cap gv.l (by rw[cu]) rfl (by rw[cu];omega) b9 b8)) ae ?_;rintro _ _⟨rfl,rfl⟩;refine Vr ?_;intros;refine KX.d7 an ag ⟨?_,rfl⟩;by_cases q2:mtP (fun m=>m.to) (fun m=>m.frm) s.times (s.moves.drop r.take.l.length) gv.l
 ·rw[aU q2,aU (a1.2 ⟨h4,h5,h6,b2.1 q1,b4.1 q2⟩)];rfl
 ·rw[aH q2,aH (fun h=>q2 (b4.2 (a1.1 h).2.2.2.2))];rfl
abbrev DH:=aH4 [.ev 17,.ev 18,.ev 19,.ev 20,.ev 21,.ev 22,.ev 23,.ev 24,.ev 25,.ev 26,.ev 27,.ev 28,.ev 29,.ev 30]
abbrev DG:=aH2 [.ev 10,.ef 11]
def VJ{φ ψ:Prop}(k:ψ)(h:Hid ψ→φ:=by intro k;(repeat (first|refine aa ?_|intro zzz|refine G.dr 59 4 DH ?_|refine G.dr 59 5 DG ?_));(repeat revert zzz);exact Hid.out k):φ:=h ⟨k⟩
def vg{L:LH}(ad:OA)(cap:Nat)(xs:LL)(x:Lot)(hl:xs.length≤100000000)(a6:∀y∈xs,LotW y)(hx:LotW x) :
  Tri ai 305 #[ah ad xs.length cap,aO (aj x)] (osl aj 3 tLot ad cap xs::L) (fun v L'=>∃a3 a1,v=ah a3 (aZ xs x).length a1∧L' = osl aj 3 tLot a3 a1 (aZ xs x)::L):=by
 refine Tri.bd ?_;simp only[aj];by_cases h0:x.2.2=0
 ·have e:aZ xs x=xs:=by unfold aZ;rw[if_pos h0]
  rw[e];refine VJ ?_;intros;exact KX.en ⟨ad,cap,rfl,rfl⟩
 by_cases h1:xs.length=0
 ·have e:aZ xs x=xs++[x]:=by unfold aZ;rw[if_neg h0,if_neg (fun h=>h.1 h1)]
  rw[e];refine VJ ?_;intros;refine GO.ef (Ef.d7 (enc:=aj) (e:=x) rfl rfl rfl rfl rfl aK (bX _) ab ab) ae ?_;rintro _ _⟨ad2,a0,rfl,rfl⟩;refine VJ ?_;intros;exact KX.en ⟨ad2,a0,rfl,rfl⟩
 have a2:((xs.length:Int) - 1).toNat=xs.length - 1:=ab;have a4:=a6 _ (aJ (ab:xs.length - 1<xs.length));rw[←a2] at a4;unfold LotW at a4 hx;by_cases hc:ky x xs[((xs.length:Int) - 1).toNat]!
 ·have a5:=lcont_iff.1 hc;obtain⟨a7,a8⟩:=a5
  have e:aZ xs x=xs.set ((xs.length:Int) - 1).toNat (xs[((xs.length:Int) - 1).toNat]!.1,xs[((xs.length:Int) - 1).toNat]!.2.1,xs[((xs.length:Int) - 1).toNat]!.2.2+x.2.2):=by
   unfold aZ;rw[a2] at hc ⊢;rw[if_neg h0,if_pos ⟨h1,hc⟩]
  rw[e];refine VJ ?_;intros;refine GPW.efu (Ef.e9 (e:=((xs[((xs.length:Int) - 1).toNat]!.1,xs[((xs.length:Int) - 1).toNat]!.2.1,xs[((xs.length:Int) - 1).toNat]!.2.2+x.2.2):Lot)) rfl rfl aK rfl ab ae) ?_;rintro _ _ rfl;refine VJ ?_;intros;exact KX.d7 an ag ⟨ad,cap,by rw[bh];rfl,rfl⟩
 ·have e:aZ xs x=xs++[x]:=by
   unfold aZ;rw[a2] at hc;rw[if_neg h0,if_neg (fun h=>hc h.2)]
  rw[e];rw[lcont_iff] at hc;by_cases hf:x.1=xs[((xs.length:Int) - 1).toNat]!.1
  ·have ha:¬x.2.1=xs[((xs.length:Int) - 1).toNat]!.2.1+xs[((xs.length:Int) - 1).toNat]!.2.2:=fun q=>hc ⟨hf,q⟩;refine VJ ?_;intros;refine GO.ef (Ef.d7 (enc:=aj) (e:=x) rfl rfl rfl rfl rfl aK (bX _) ab ab) ae ?_;rintro _ _⟨ad2,a0,rfl,rfl⟩;refine VJ ?_;intros;exact KX.en ⟨ad2,a0,rfl,rfl⟩
  ·refine VJ ?_;intros;refine GO.ef (Ef.d7 (enc:=aj) (e:=x) rfl rfl rfl rfl rfl aK (bX _) ab ab) ae ?_;rintro _ _⟨ad2,a0,rfl,rfl⟩;refine VJ ?_;intros;exact KX.en ⟨ad2,a0,rfl,rfl⟩
abbrev DI:=aG9 [.ev 5,.ev 6,.ev 7,.ev 8,.ef 4,.ef 9,.ef 10,.ef 11,.ev 12]
def VS{φ ψ:Prop}(k:ψ)(h:Hid ψ→φ:=by intro k;(repeat (first|refine aa ?_|intro zzz|refine G.dr 17 1 DI ?_));(repeat revert zzz);exact Hid.out k):φ:=h ⟨k⟩
def Fl{L:LH}(x y:Lot):Tri ai 283 #[aO (aj x),aO (aj y)] L (rtQ (ac (hdC x y)) L):=by
 refine Tri.bd ?_;refine VS ?_;intros;refine GPW.cr (jj x.1 y.1) ?_;refine VS ?_;intros;refine GPW.cr (jj x.2.1 y.2.1) ?_;refine VS ?_;intros;rename_i bc;refine GPW.ent (Ent.f7 (enc:=encZ .i64) (sz:=1) (xs:=[cmpI x.1 y.1,cmpI x.2.1 y.2.1]) rfl rfl (fun _ _=>rfl) ce) ?_;refine GPW.cr (mI (some ⟨bc,0,none⟩) 2 (cmpI x.1 y.1) (cmpI x.2.1 y.2.1)) ?_;refine VS ?_;intros;exact KX.en ⟨rfl,rfl⟩
def wW{E cap:Nat}{ad:OA}{xs:LL}(a0:xs.length<4611686018427387904) :
  Tri ai 282 #[ah ad xs.length cap,.func (.func 283) #[] #[]] [osl aj 3 E ad cap xs] (fun v L'=>v=.tuple #[]∧∃ys,fj hdC xs ys∧L' = [osl aj 3 E ad cap ys]) :=
 Tri.d7 (ρ:=Tryz.sortL_ren) Tryz.sortL (k:=3) Tryz.isAgg91 Tryz.sizeOf91 (fun _=>rfl) bX (Lc:=[]) hdC uI Ib en283.1 (fun _ _ _=>trivial) (fun x y=>(Fl (L:=[]) x y).mono (fun _ _ h=>h.1)) a0
def pO{ys:LL}{k:Nat}(h:k<ys.length):zset (ys.take (k+1))=zst (zset (ys.take k)) ys[k]!:=iq zst [] h
def If(s:LL)(x:Lot):(zst s x).length≤s.length+1:=by
 unfold zst;split
 ·rw[bh];omega
 ·rw[aq,aM];omega
def wD(ys:LL):∀k,k≤ys.length→(zset (ys.take k)).length≤k
 | 0,_=>aB _
 | k+1,h=>by
  have h1:=wD ys k ab;have h2:=If (zset (ys.take k)) ys[k]!;rw[pO ab];omega
def EP{ys:LL}(hw:∀y∈ys,LotOk y):∀k,k≤ys.length→∀y∈zset (ys.take k),LotOk y
 | 0,_=>fun _ h=>by cases h
 | k+1,h=>by
  have h1:=EP hw k ab;have hx:=hw _ (aJ (ab:k<ys.length));rw[pO ab];generalize ys[k]! = x at hx;generalize zset (ys.take k)=s at h1;unfold LotOk at hx;unfold zst;split
  ·rename_i hc;intro y hy;rcases dz hy with hy|rfl
   ·exact h1 y hy
   ·have:=h1 _ (aJ (ab:s.length - 1<s.length))
    unfold LotOk at this ⊢;dsimp only;omega
  ·intro y hy;rcases List.mem_append.1 hy with hy|hy
   ·exact h1 y hy
   ·rw[List.mem_singleton.1 hy];unfold LotOk;omega
abbrev DJ:=aH4 [.ev 17,.ev 18,.ev 19,.ev 20,.ev 21,.ev 22,.ev 23,.ev 24,.ev 25,.ev 26,.ev 27,.ev 28,.ev 29,.ev 30]
abbrev Am:=aH4 [.ev 17,.ef 18]
def VW{φ ψ:Prop}(k:ψ)(h:Hid ψ→φ:=by intro k;(repeat (first|refine aa ?_|intro zzz|refine G.dr 80 8 DJ ?_|refine G.dr 80 10 Am ?_));(repeat revert zzz);exact Hid.out k):φ:=h ⟨k⟩
def jY{L:LH}(ad:OA)(n c:Nat)(xs:LL)[Rds L ad Lot aj 3 xs](hn:n=xs.length)(hl:xs.length≤100000)(hw:∀x∈xs,LotOk x) :
  Tri ai 263 #[ah ad n c] L (fun v L'=>∃a8 a2 ys,v=ah a8 (zset ys).length a2∧fj hdC xs ys∧L' = osl aj 3 tLot a8 a2 (zset ys)::L):=by
 subst hn;refine Tri.bd ?_;refine VW ?_;intros;refine GO.ca (hM ad xs.length c xs rfl ab) ?_;rintro _ _⟨a1,c1,rfl,rfl⟩;refine VW ?_;intros;(first|refine GO.ef (Ef.call (wW (E:=tLot) (ad:=a1) (cap:=c1) (xs:=xs) ab) rfl cN) ae ?_);rintro _ _⟨_,⟨rfl,ys,a7,rfl⟩,hL⟩;simp only[ao,al] at hL;subst hL;have b7:=a7.1.length_eq;have b2:∀y∈ys,LotOk y:=fun y hy=>hw y (a7.1.mem_iff.1 hy);rw[←b7];refine VW ?_;intros;refine G.ent (L':=osl aj 3 tLot none 0 []::osl aj 3 tLot a1 c1 ys::L) (Ent.d8 aj 3 tLot) ?_;refine G.loop (α:=Nat×OA×Nat) (fun g=>g.1≤ys.length) (fun g=>[(4,ah g.2.1 (zset (ys.take g.1)).length g.2.2),(13,ah a1 ys.length c1),(14,ac ys.length),(15,ac (g.1:Int))]) (fun g=>osl aj 3 tLot g.2.1 g.2.2 (zset (ys.take g.1))::osl aj 3 tLot a1 c1 ys::L) (fun g=>ys.length - g.1) (0,none,0) (ax _) av (Ent.refl _) ?_;rintro⟨k,ad2,a0⟩ hk;dsimp only at hk ⊢;by_cases b4:k<ys.length
 case neg =>
  rw[aD (ab:ys.length≤k)];refine VW ?_;intros;exact KX.en ⟨ad2,a0,ys,rfl,a7,rfl⟩
 have b3:(k:Int).toNat=k:=aC k;have a6 : (k:Int).toNat<ys.length:=ab;have hx:=b2 _ (aJ a6);have et:=pO b4;rw[show ys[k]! = ys[(k:Int).toNat]! by rw[b3]] at et;have b5:=wD ys k ab;have b0:=EP b2 k ab;obtain⟨x,b1⟩:∃x,ys[(k:Int).toNat]! = x:=⟨_,rfl⟩;rw[b1] at hx et;generalize zset (ys.take k)=s at b5 b0 et ⊢;have b6:=hx;unfold LotOk at b6;refine G.f8 (show ∀θ R w,Sat θ ((osl aj 3 tLot ad2 a0 s::osl aj 3 tLot a1 c1 ys::L)++R) w→(0<s.length→EO ad2) from fun θ R w q h0=>Hl (ad:=ad2) (cap:=a0) (xs:=s) (enc:=aj) (sz:=3) (E:=tLot) h0 θ R w q) ?_;intro a4;refine VW ?_;intros;rw[b1];simp only[aj];by_cases h1:s.length=0
 ·have e:zst s x=s++[x]:=by unfold zst;rw[if_neg (fun q=>q.1 h1)]
  refine VW ?_;intros;refine GO.ef (Ef.d7 (enc:=aj) (e:=x) rfl rfl rfl rfl rfl aK (bX _) ab ab) ae ?_;rintro _ _⟨ad3,cap3,rfl,rfl⟩;refine VW ?_;intros;refine⟨(k+1,ad3,cap3),by dsimp only;omega,by dsimp only;omega,?_,?_⟩
  ·dsimp only;rw[et,e,aY k];exact av
  ·dsimp only;rw[et,e];exact ag
 have a3:=a4 ab;have a5:((s.length:Int) - 1).toNat=s.length - 1:=ab;have a9:=b0 _ (aJ (ab:s.length - 1<s.length));rw[←a5] at a9;unfold LotOk at a9;by_cases hc:s[((s.length:Int) - 1).toNat]!.1=x.1∧x.2.1≤s[((s.length:Int) - 1).toNat]!.2.1+s[((s.length:Int) - 1).toNat]!.2.2
 ·have e:zst s x=s.set ((s.length:Int) - 1).toNat (s[((s.length:Int) - 1).toNat]!.1,s[((s.length:Int) - 1).toNat]!.2.1,max s[((s.length:Int) - 1).toNat]!.2.2 (x.2.1+x.2.2 - s[((s.length:Int) - 1).toNat]!.2.1)):=by
   unfold zst;rw[a5] at hc ⊢;rw[if_pos ⟨h1,hc⟩]
  obtain⟨b8,b9⟩:=hc;refine VW ?_;intros;refine GPW.evP (Ev.m6 rfl a3) ae ?_;refine VW ?_;intros;refine GPW.evP (Ev.m6 rfl a3) ae ?_;refine VW ?_;intros;refine GPW.evP (Ev.m6 rfl a3) ae ?_;refine VW ?_;intros;refine GPW.efu (Ef.e9 (e:=((s[((s.length:Int) - 1).toNat]!.1,s[((s.length:Int) - 1).toNat]!.2.1,max s[((s.length:Int) - 1).toNat]!.2.2 (x.2.1+x.2.2 - s[((s.length:Int) - 1).toNat]!.2.1)):Lot)) rfl rfl aK rfl ab ae) ?_;rintro _ _ rfl;refine VW ?_;intros;refine⟨(k+1,ad2,a0),by dsimp only;omega,by dsimp only;omega,?_,?_⟩
  ·dsimp only;rw[et,e,bh,aY k];exact av
  ·dsimp only;rw[et,e];exact ag
 have e:zst s x=s++[x]:=by
  unfold zst;rw[a5] at hc;rw[if_neg (fun q=>hc q.2)]
 by_cases hf:s[((s.length:Int) - 1).toNat]!.1=x.1
 ·have ha:¬x.2.1≤s[((s.length:Int) - 1).toNat]!.2.1+s[((s.length:Int) - 1).toNat]!.2.2:=fun q=>hc ⟨hf,q⟩;refine VW ?_;intros;refine GO.ef (Ef.d7 (enc:=aj) (e:=x) rfl rfl rfl rfl rfl aK (bX _) ab ab) ae ?_;rintro _ _⟨ad3,cap3,rfl,rfl⟩;refine VW ?_;intros;refine⟨(k+1,ad3,cap3),by dsimp only;omega,by dsimp only;omega,?_,?_⟩
  ·dsimp only;rw[et,e,aY k];exact av
  ·dsimp only;rw[et,e];exact ag
 ·refine VW ?_;intros;refine GO.ef (Ef.d7 (enc:=aj) (e:=x) rfl rfl rfl rfl rfl aK (bX _) ab ab) ae ?_;rintro _ _⟨ad3,cap3,rfl,rfl⟩;refine VW ?_;intros;refine⟨(k+1,ad3,cap3),by dsimp only;omega,by dsimp only;omega,?_,?_⟩
  ·dsimp only;rw[et,e,aY k];exact av
  ·dsimp only;rw[et,e];exact ag
end
section
open Go.V
def xx{x:Lot}{set:LL}(h:SetOk set){p q:Nat}(a2:p≤q)(hq:q<set.length)(hp:pzP x set[p]!):pzP x set[q]!:=by
 rcases cm p q with a0|a1
 ·have h1:=(List.pairwise_iff_getElem.1 h.sl) p q ab hq a0;have h2:=h.ok _ (aJ hq);rw[getElem!_of (ab:p<set.length)] at hp;rw[getElem!_of hq] at h2 ⊢;unfold pzP at hp ⊢;unfold sl at h1;unfold LotOk at h2;omega
 ·obtain rfl:p=q:=ab;exact hp
def HW(q:Lot×Bool):LV:=[aO (aj q.1),.bool q.2]
attribute [local irreducible] G GO GP GPW GPK Ev Ef EfR Ent CB GB V.Enters
abbrev DF:=aH4 [.ev 17,.ev 18,.ev 19,.ev 20,.ev 21,.ev 22,.ev 23,.ev 24,.ev 25,.ev 26,.ev 27,.ev 28,.ev 29,.ev 30,.ev 31,.ev 32,.ev 33,.ev 34]
def Wn{φ ψ:Prop}(k:ψ)(h:Hid ψ→φ:=by intro k;(repeat (first|refine aa ?_|intro zzz|refine G.dr 39 1 DF ?_));(repeat revert zzz);exact Hid.out k):φ:=h ⟨k⟩
def DV{L:LH}(bs bx:Nat)(sad:OA)(sc:Nat)(set:LL)[hr:Rds L sad Lot aj 3 set](x:Lot)(hx:LotW x)(hw:∀y∈set,LotOk y)(a2:set.length≤1000000)(k:Nat)(hk:k<set.length) :
  Tri ai 328 #[ac (k:Int),ay bs,ay bx] (obj bs fJ [ah sad set.length sc]::obj bx tLot (aj x)::L) (rtQ (.bool (dB (pzP x set[k]!))) (obj bs fJ [ah sad set.length sc]::obj bx tLot (aj x)::L)):=by
 have a1:(k:Int).toNat=k:=aC k;have a0:=hw _ (aJ hk);unfold LotOk at a0;unfold LotW at hx;rw[show set[k]! = set[(k:Int).toNat]! by rw[a1]] at a0 ⊢;simp only[aj];refine Tri.bd ?_;by_cases c1:x.1<set[(k:Int).toNat]!.1
 ·rw[aU (show pzP x set[(k:Int).toNat]! from .inl c1)];refine Wn ?_;intros;exact KX.en ⟨rfl,rfl⟩
 by_cases c2:set[(k:Int).toNat]!.1=x.1
 ·by_cases c3:x.2.1<set[(k:Int).toNat]!.2.1+set[(k:Int).toNat]!.2.2
  ·rw[aU (show pzP x set[(k:Int).toNat]! from .inr ⟨c2,c3⟩)];refine Wn ?_;intros;exact KX.d7 an ag ⟨by rw[aU c3];rfl,rfl⟩
  ·rw[aH (fun h:pzP x set[(k:Int).toNat]! =>h.elim c1 (fun q=>c3 q.2))];refine Wn ?_;intros;exact KX.d7 an ag ⟨by rw[aH c3];rfl,rfl⟩
 ·rw[aH (fun h:pzP x set[(k:Int).toNat]! =>h.elim c1 (fun q=>c2 q.1))];refine Wn ?_;intros;exact KX.en ⟨rfl,rfl⟩
def zt{L:LH}(bs bx:Nat)(sad:OA)(sc:Nat)(set:LL)[hr:Rds L sad Lot aj 3 set](x:Lot)(hx:LotW x)(hs:SetOk set)(a2:set.length≤1000000) :
  Tri ai 327 #[ac (set.length:Int),.func (.func 328) #[] #[ay bs,ay bx]] (obj bs fJ [ah sad set.length sc]::obj bx tLot (aj x)::L) (fun v L'=>∃i:Nat,v=ac (i:Int)∧(i≤set.length∧(∀p,p<i→¬pzP x set[p]!)∧(i<set.length→pzP x set[i]!))∧L' = obj bs fJ [ah sad set.length sc]::obj bx tLot (aj x)::L):=by
 refine Tri.bd ?_;refine JM ?_;intros;refine G.loop (α:=Nat×Nat) (fun g=>(g.1≤g.2∧g.2≤set.length)∧(∀p,p<g.1→¬pzP x set[p]!)∧∀p,g.2≤p→p<set.length→pzP x set[p]!) (fun g=>[(1,.func (.func 328) #[] #[ay bs,ay bx]),(5,ac (g.1:Int)),(6,ac (g.2:Int))]) (fun _=>obj bs fJ [ah sad set.length sc]::obj bx tLot (aj x)::L) (fun g=>g.2 - g.1) (0,set.length) ⟨⟨ax _,aB _⟩,fun p hp=>absurd hp (cj p),fun p h1 h2=>absurd h2 (by dsimp only at h1;omega)⟩ av (Ent.refl _) ?_;rintro⟨i,j⟩ ⟨⟨h1,h2⟩,h3,h4⟩;dsimp only at h1 h2 h3 h4 ⊢;by_cases a3:i<j
 case neg =>
  have a0:i=j:=ab;subst a0;refine JM ?_;intros;exact KX.en ⟨i,rfl,⟨h2,h3,fun q=>h4 i (aB _) q⟩,rfl⟩
 refine JM ?_;intros;refine GO.ev (Ev.shr rfl rfl ae) ae ?_
 have e2:((i:Int)+(j:Int)).fdiv (2 ^ min ((1:Int).toNat) IntKind.u64.bits)=(((i+j) / 2:Nat):Int):=by
  rw[Int.fdiv_eq_ediv_of_nonneg _ ae];simp[IntKind.bits]
 rw[e2];obtain⟨h,hh⟩:∃h,(i+j) / 2=h:=⟨_,rfl⟩;rw[hh];refine JM ?_;intros;refine GO.ef (Ef.d8 rfl rfl (DV bs bx sad sc set x hx hs.ok a2 h ab)) ae ?_;rintro _ _⟨rfl,rfl⟩;by_cases hc:pzP x set[h]!
 ·rw[aU hc];refine JM ?_;intros;exact⟨(i,h),⟨⟨ab,ab⟩,h3,fun p hp a1=>xx hs hp a1 hc⟩,by dsimp only;omega,av,Ent.refl _⟩
 ·rw[aH hc];refine JM ?_;intros;refine⟨(h+1,j),⟨⟨ab,ab⟩,fun p hp q=>?_,h4⟩,by dsimp only;omega,?_,Ent.refl _⟩
  ·dsimp only at hp;exact hc (xx hs (ab:p≤h) ab q)
  ·rw[show(((h+1,j):Nat×Nat).1:Int)=(h:Int)+1 by simp];exact av
